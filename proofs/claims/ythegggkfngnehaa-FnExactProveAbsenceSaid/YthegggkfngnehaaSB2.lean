/- Functions of the program: what each computes, and that it does so.
   Conditions: as each theorem states. -/
import Derived.Test.YthegggkfngnehaaSB1
import Derived.WalkKit
import Derived.Lib.Bytealg
set_option linter.unusedVariables false
set_option linter.unusedSimpArgs false
set_option maxRecDepth 100000
namespace Go.Proofs.Ythegggkfngnehaa.Ref
open Go.RowKit Go.Proofs.YthegggkfngnehaaW.PrintWords Go.Proofs.YthegggkfngnehaaW.PrintLast
/-! internal.bytealg.CompareString -/
abbrev N.internal_bytealg_CompareString (a b : ByteArray) : Int := cmpStr a b
-- HAND
open Go.Proofs.Ythegggkfngnehaa in
theorem calls_cmp (a b : ByteArray) (w : World) : Calls Try.prog 118 #[.string a, .string b] w fun e w' => e = .returned (.int .i64 (Lib.compareBytes a.data.toList b.data.toList)) ∧ w' = w := by
  go_enter Try.func118, Try.ntmps118
  go_wp2
  rw [run_callFunc_extern Try.func124 (by kernel_rfl) (by kernel_rfl) (by kernel_rfl) (e := Extern.BytealgCompare.compare) (by kernel_rfl), Lib.run_compareString]
  simp only [Result.andThen]
  rw [Oper.upon_value]
  go_wp2
  go_ret
  exact ⟨rfl, rfl⟩
theorem said_internal_bytealg_CompareString (a0 a1 : ByteArray) : Said Try.prog sigs_118 118 [.val .str a0, .val .str a1] [⟨.int .i64, N.internal_bytealg_CompareString a0 a1⟩] :=
  said_int Try.func118 (by kernel_rfl) (by kernel_rfl) (fun w ok vs h => by
    obtain ⟨v0, vs0, rfl, h0, v1, vs1, rfl, h1, rfl⟩ := h
    rw [avr_str h0, avr_str h1, show N.internal_bytealg_CompareString a0 a1 = _ from (cmp_data a0 a1).symm]
    exact calls_cmp a0 a1 w)

/-! strings.Compare -/
abbrev N.strings_Compare (a b : ByteArray) : Int := cmpStr a b
def strings_Compare {ρ : Type} (k : Int → Option ρ) (a0 : ByteArray) (a1 : ByteArray) : Option ρ := (k (N.internal_bytealg_CompareString a0 a1))
theorem strings_Compare_ok {ρ : Type} (k : Int → Option ρ) (a0 : ByteArray) (a1 : ByteArray) : strings_Compare k  a0 a1 = k (N.strings_Compare a0 a1) := by
  rfl
def OP_strings_Compare (f_internal_bytealg_CompareString : ByteArray → ByteArray → Int) : Orac := (orcX 118 [.val .str, .val .str] (fun d => true) (fun d => [⟨(.int .i64), f_internal_bytealg_CompareString d.1 d.2.1⟩]) nilO)
def O_strings_Compare : Orac := OP_strings_Compare N.internal_bytealg_CompareString
def strings_Compare_P {ρ : Type} (f_internal_bytealg_CompareString : ByteArray → ByteArray → Int) (k : Int → Option ρ) (a0 : ByteArray) (a1 : ByteArray) : Option ρ := (k (f_internal_bytealg_CompareString a0 a1))
theorem ok_strings_Compare : OracOk Try.prog sigs O_strings_Compare := (orcX_ok rfl rfl (fun d g => said_internal_bytealg_CompareString d.1 d.2.1) nilO_ok)
def A_strings_Compare : Ann := fun b => ⟨[], []⟩
theorem aP_strings_Compare (f_internal_bytealg_CompareString : ByteArray → ByteArray → Int) (n : Nat) (a0 : ByteArray) (a1 : ByteArray) : absF tab sigs (OP_strings_Compare f_internal_bytealg_CompareString) A_strings_Compare Try.f105 [((.int .i64), .no)] n [.val .str a0, .val .str a1] = strings_Compare_P f_internal_bytealg_CompareString (fun r0 => some [⟨(.int .i64), r0⟩])  a0 a1 := by kernel_rfl
theorem a_strings_Compare (n : Nat) (a0 : ByteArray) (a1 : ByteArray) : absF tab sigs O_strings_Compare A_strings_Compare Try.f105 [((.int .i64), .no)] n [.val .str a0, .val .str a1] = strings_Compare (fun r0 => some [⟨(.int .i64), r0⟩])  a0 a1 := aP_strings_Compare N.internal_bytealg_CompareString n a0 a1
theorem said_strings_Compare (a0 : ByteArray) (a1 : ByteArray) : Said Try.prog sigs_105 105 [.val .str a0, .val .str a1] [⟨(.int .i64), N.strings_Compare a0 a1⟩] := said_len (T := tab) (A := A_strings_Compare) tabOk ok_strings_Compare tabOk.follows Try.func105 (by kernel_rfl) (by kernel_rfl) (fun hl => ⟨0, (a_strings_Compare 0 a0 a1).trans (strings_Compare_ok (ρ := Ret) (fun r0 => some [⟨(.int .i64), r0⟩]) a0 a1)⟩)
/-! impl.CompareLabels -/
abbrev N.impl_CompareLabels (a b : ByteArray) : Int := cmpStr a b
def impl_CompareLabels {ρ : Type} (k : Int → Option ρ) (a0 : ByteArray) (a1 : ByteArray) : Option ρ := (k (N.strings_Compare a0 a1))
theorem impl_CompareLabels_ok {ρ : Type} (k : Int → Option ρ) (a0 : ByteArray) (a1 : ByteArray) : impl_CompareLabels k  a0 a1 = k (N.impl_CompareLabels a0 a1) := by
  rfl
def OP_impl_CompareLabels (f_strings_Compare : ByteArray → ByteArray → Int) : Orac := (orcX 105 [.val .str, .val .str] (fun d => true) (fun d => [⟨(.int .i64), f_strings_Compare d.1 d.2.1⟩]) nilO)
def O_impl_CompareLabels : Orac := OP_impl_CompareLabels N.strings_Compare
def impl_CompareLabels_P {ρ : Type} (f_strings_Compare : ByteArray → ByteArray → Int) (k : Int → Option ρ) (a0 : ByteArray) (a1 : ByteArray) : Option ρ := (k (f_strings_Compare a0 a1))
theorem ok_impl_CompareLabels : OracOk Try.prog sigs O_impl_CompareLabels := (orcX_ok rfl rfl (fun d g => said_strings_Compare d.1 d.2.1) nilO_ok)
def A_impl_CompareLabels : Ann := fun b => ⟨[], []⟩
theorem aP_impl_CompareLabels (f_strings_Compare : ByteArray → ByteArray → Int) (n : Nat) (a0 : ByteArray) (a1 : ByteArray) : absF tab sigs (OP_impl_CompareLabels f_strings_Compare) A_impl_CompareLabels Try.f74 [((.int .i64), .no)] n [.val .str a0, .val .str a1] = impl_CompareLabels_P f_strings_Compare (fun r0 => some [⟨(.int .i64), r0⟩])  a0 a1 := by kernel_rfl
theorem a_impl_CompareLabels (n : Nat) (a0 : ByteArray) (a1 : ByteArray) : absF tab sigs O_impl_CompareLabels A_impl_CompareLabels Try.f74 [((.int .i64), .no)] n [.val .str a0, .val .str a1] = impl_CompareLabels (fun r0 => some [⟨(.int .i64), r0⟩])  a0 a1 := aP_impl_CompareLabels N.strings_Compare n a0 a1
theorem said_impl_CompareLabels (a0 : ByteArray) (a1 : ByteArray) : Said Try.prog sigs_74 74 [.val .str a0, .val .str a1] [⟨(.int .i64), N.impl_CompareLabels a0 a1⟩] := said_len (T := tab) (A := A_impl_CompareLabels) tabOk ok_impl_CompareLabels tabOk.follows Try.func74 (by kernel_rfl) (by kernel_rfl) (fun hl => ⟨0, (a_impl_CompareLabels 0 a0 a1).trans (impl_CompareLabels_ok (ρ := Ret) (fun r0 => some [⟨(.int .i64), r0⟩]) a0 a1)⟩)
/-! impl.AreEntries -/
abbrev G.impl_AreEntries (l : List TEntry) : Bool := decide (wEs l ≤ 1048576)
abbrev N.impl_AreEntries (l : List TEntry) : Bool := areEntries l
def impl_AreEntries_L0 {ρ : Type} (k : Bool → Option ρ) (L0 : (List TEntry) → (List TEntry) → Int → Int → Option ρ) (v0_0 : (List TEntry)) (v0_1 : (List TEntry)) (v0_2 : Int) (v0_3 : Int) : Option ρ := (cond (decide (v0_3 < v0_2)) (cond (inRange v0_3 (List.length v0_1)) (cond (G.impl_IsEntry (List.getD v0_1 (Int.toNat v0_3) (ByteArray.empty, ((0 : Int), ((0 : Int), []))))) (cond (!(N.impl_IsEntry (List.getD v0_1 (Int.toNat v0_3) (ByteArray.empty, ((0 : Int), ((0 : Int), [])))))) (k false) (cond (decide (v0_3 > (0 : Int))) (cond (inRange (IntKind.wrap .i64 (v0_3 - (1 : Int))) (List.length v0_0)) (cond (decide ((N.impl_CompareLabels (List.getD v0_1 (Int.toNat v0_3) (ByteArray.empty, ((0 : Int), ((0 : Int), [])))).1 (List.getD v0_0 (Int.toNat (IntKind.wrap .i64 (v0_3 - (1 : Int)))) (ByteArray.empty, ((0 : Int), ((0 : Int), [])))).1) ≤ (0 : Int))) (k false) (L0 v0_0 v0_1 v0_2 (IntKind.wrap .i64 (v0_3 + (1 : Int))))) none) (L0 v0_0 v0_1 v0_2 (IntKind.wrap .i64 (v0_3 + (1 : Int)))))) none) none) (k (decide ((List.length v0_0 : Int) ≤ (12 : Int)))))
def impl_AreEntries {ρ : Type} (k : Bool → Option ρ) (L0 : (List TEntry) → (List TEntry) → Int → Int → Option ρ) (a0 : (List TEntry)) : Option ρ := (L0 a0 a0 (List.length a0 : Int) (0 : Int))
theorem impl_AreEntries_ok {ρ : Type} (k : Bool → Option ρ) (a0 : (List TEntry)) (l_a0 : lnL (fun y => (True ∧ (True ∧ (True ∧ lnL (fun _ => True) y.2.2.2)))) a0) (g : G.impl_AreEntries a0 = true) : ∃ n0, ∀ n, n0 ≤ n → ∀ (L0 : Nat → (List TEntry) → (List TEntry) → Int → Int → Option ρ) (h0 : ∀ ( m : Nat) (v0_0 : (List TEntry)) (v0_1 : (List TEntry)) (v0_2 : Int) (v0_3 : Int), L0 (m + 1) v0_0 v0_1 v0_2 v0_3 = impl_AreEntries_L0 k (L0 m) v0_0 v0_1 v0_2 v0_3), impl_AreEntries k (L0 n) a0 = k (N.impl_AreEntries a0) := by
  unfold G.impl_AreEntries at g
  have hw : wEs a0 ≤ 1048576 := of_decide_eq_true g
  have hl : a0.length ≤ 1048576 := by unfold wEs at hw; omega
  refine ⟨a0.length + 1, fun n hn L0 h0 => ?_⟩
  have hrun := raw_run0 (σ := Unit) (s := ()) (L := fun m i _ => L0 m a0 a0 (a0.length : Int) i) (R := fun i _ c => impl_AreEntries_L0 k (fun _ _ _ i => c i ()) a0 a0 (a0.length : Int) i) (fun m i s => h0 m a0 a0 (a0.length : Int) i) a0.length (fun _ _ => True) (fun j _ => cond (areFrom a0 (a0.length - j) j) (k (decide (a0.length ≤ 12))) (k false)) (fun j s c hj _ hc => ?_) (fun s c _ => ?_) hn trivial
  · refine hrun.trans ?_
    show _ = k (areFrom a0 a0.length 0 && decide (a0.length ≤ 12))
    rw [Nat.sub_zero]
    cases areFrom a0 a0.length 0 <;> rfl
  · obtain ⟨m, hm⟩ : ∃ m, a0.length - j = m + 1 := ⟨a0.length - j - 1, by omega⟩
    have hm2 : a0.length - (j + 1) = m := by omega
    have hc' := hc () trivial
    rw [hm2] at hc'
    have hmem := wEs_mem (getD_mem (d := (ByteArray.empty, (0, (0, [])))) hj)
    have g2 : decide (wE (a0.getD j (ByteArray.empty, (0, (0, [])))) ≤ 1048576) = true := by simp only [decide_eq_true_eq]; omega
    rw [hm]
    unfold areFrom
    by_cases h0j : j = 0
    · subst h0j
      simp only [impl_AreEntries_L0, lt_nat, inRange_nat, decide_eq_true hj, cond_true, Int.toNat_natCast, G.impl_IsEntry, N.impl_IsEntry, g2, wrap_succ (j := 0) (by unfold big; omega), hc']
      cases isEntry (a0.getD 0 (ByteArray.empty, (0, (0, [])))) <;> simp
    · have e1 : decide ((j : Int) > 0) = true := by simp; omega
      have e2 : IntKind.wrap .i64 ((j : Int) - 1) = ((j - 1 : Nat) : Int) := by rw [wrap_id (by omega) (by omega)]; omega
      have e3 : j - 1 < a0.length := by omega
      simp only [impl_AreEntries_L0, lt_nat, inRange_nat, decide_eq_true hj, cond_true, Int.toNat_natCast, G.impl_IsEntry, N.impl_IsEntry, N.impl_CompareLabels, g2, e1, e2, decide_eq_true e3, wrap_succ (j := j) (by unfold big; omega), hc', decide_eq_false h0j, cmpStr_swap]
      cases isEntry (a0.getD j (ByteArray.empty, (0, (0, [])))) <;> cases cmpStr (a0.getD (j - 1) (ByteArray.empty, (0, (0, [])))).1 (a0.getD j (ByteArray.empty, (0, (0, [])))).1 == -1 <;> simp
  · have e1 : decide ((a0.length : Int) ≤ 12) = decide (a0.length ≤ 12) := by simp only [decide_eq_decide]; omega
    rw [Nat.sub_self]
    simp [impl_AreEntries_L0, areFrom, e1]
def OP_impl_AreEntries (f_impl_IsEntry : TEntry → Bool) (g_impl_IsEntry : TEntry → Bool) (f_impl_CompareLabels : ByteArray → ByteArray → Int) : Orac := (orcX 74 [.val .str, .val .str] (fun d => true) (fun d => [⟨(.int .i64), f_impl_CompareLabels d.1 d.2.1⟩]) (orcX 49 [.val TyEntry] (fun d => g_impl_IsEntry d.1) (fun d => [⟨.bool, f_impl_IsEntry d.1⟩]) nilO))
def O_impl_AreEntries : Orac := OP_impl_AreEntries N.impl_IsEntry G.impl_IsEntry N.impl_CompareLabels
def impl_AreEntries_P_L0 {ρ : Type} (f_impl_IsEntry : TEntry → Bool) (g_impl_IsEntry : TEntry → Bool) (f_impl_CompareLabels : ByteArray → ByteArray → Int) (k : Bool → Option ρ) (L0 : (List TEntry) → (List TEntry) → Int → Int → Option ρ) (v0_0 : (List TEntry)) (v0_1 : (List TEntry)) (v0_2 : Int) (v0_3 : Int) : Option ρ := (cond (decide (v0_3 < v0_2)) (cond (inRange v0_3 (List.length v0_1)) (cond (g_impl_IsEntry (List.getD v0_1 (Int.toNat v0_3) (ByteArray.empty, ((0 : Int), ((0 : Int), []))))) (cond (!(f_impl_IsEntry (List.getD v0_1 (Int.toNat v0_3) (ByteArray.empty, ((0 : Int), ((0 : Int), [])))))) (k false) (cond (decide (v0_3 > (0 : Int))) (cond (inRange (IntKind.wrap .i64 (v0_3 - (1 : Int))) (List.length v0_0)) (cond (decide ((f_impl_CompareLabels (List.getD v0_1 (Int.toNat v0_3) (ByteArray.empty, ((0 : Int), ((0 : Int), [])))).1 (List.getD v0_0 (Int.toNat (IntKind.wrap .i64 (v0_3 - (1 : Int)))) (ByteArray.empty, ((0 : Int), ((0 : Int), [])))).1) ≤ (0 : Int))) (k false) (L0 v0_0 v0_1 v0_2 (IntKind.wrap .i64 (v0_3 + (1 : Int))))) none) (L0 v0_0 v0_1 v0_2 (IntKind.wrap .i64 (v0_3 + (1 : Int)))))) none) none) (k (decide ((List.length v0_0 : Int) ≤ (12 : Int)))))
def impl_AreEntries_P {ρ : Type} (f_impl_IsEntry : TEntry → Bool) (g_impl_IsEntry : TEntry → Bool) (f_impl_CompareLabels : ByteArray → ByteArray → Int) (k : Bool → Option ρ) (L0 : (List TEntry) → (List TEntry) → Int → Int → Option ρ) (a0 : (List TEntry)) : Option ρ := (L0 a0 a0 (List.length a0 : Int) (0 : Int))
theorem ok_impl_AreEntries : OracOk Try.prog sigs O_impl_AreEntries := (orcX_ok rfl rfl (fun d g => said_impl_CompareLabels d.1 d.2.1) (orcX_ok rfl rfl (fun d g => said_impl_IsEntry d.1 g) nilO_ok))
def A_impl_AreEntries : Ann := fun b => cond (Nat.beq b 0) ⟨[(0, false), (5, false), (6, false), (7, false)], []⟩ (⟨[], []⟩)
def S_impl_AreEntries_0 (v0_0 : (List TEntry)) (v0_1 : (List TEntry)) (v0_2 : Int) (v0_3 : Int) : St := [(kT 0, some (.tv (.v (.slice 31 TyEntry) v0_0 .no))), (kT 5, some (.tv (.v (.slice 31 TyEntry) v0_1 .no))), (kT 6, some (.tv (.v (.int .i64) v0_2 .no))), (kT 7, some (.tv (.v (.int .i64) v0_3 .no)))]
noncomputable def L_P_impl_AreEntries_0 (f_impl_IsEntry : TEntry → Bool) (g_impl_IsEntry : TEntry → Bool) (f_impl_CompareLabels : ByteArray → ByteArray → Int) (n m : Nat) : St → Option Ret := loopOf tab sigs (OP_impl_AreEntries f_impl_IsEntry g_impl_IsEntry f_impl_CompareLabels) A_impl_AreEntries Try.f55 [(.bool, .no)] n (fun _ => 0) 0 m
noncomputable def L_impl_AreEntries_0 (n m : Nat) : St → Option Ret := L_P_impl_AreEntries_0 N.impl_IsEntry G.impl_IsEntry N.impl_CompareLabels n m
theorem bP_impl_AreEntries_0 (f_impl_IsEntry : TEntry → Bool) (g_impl_IsEntry : TEntry → Bool) (f_impl_CompareLabels : ByteArray → ByteArray → Int) (n m : Nat) (v0_0 : (List TEntry)) (v0_1 : (List TEntry)) (v0_2 : Int) (v0_3 : Int) : L_P_impl_AreEntries_0 f_impl_IsEntry g_impl_IsEntry f_impl_CompareLabels n (m + 1) (S_impl_AreEntries_0 v0_0 v0_1 v0_2 v0_3) = impl_AreEntries_P_L0 f_impl_IsEntry g_impl_IsEntry f_impl_CompareLabels (fun r0 => some [⟨.bool, r0⟩]) (fun v0_0 v0_1 v0_2 v0_3 => L_P_impl_AreEntries_0 f_impl_IsEntry g_impl_IsEntry f_impl_CompareLabels n m (S_impl_AreEntries_0 v0_0 v0_1 v0_2 v0_3)) v0_0 v0_1 v0_2 v0_3 := by kernel_rfl
theorem b_impl_AreEntries_0 (n m : Nat) (v0_0 : (List TEntry)) (v0_1 : (List TEntry)) (v0_2 : Int) (v0_3 : Int) : L_impl_AreEntries_0 n (m + 1) (S_impl_AreEntries_0 v0_0 v0_1 v0_2 v0_3) = impl_AreEntries_L0 (fun r0 => some [⟨.bool, r0⟩]) (fun v0_0 v0_1 v0_2 v0_3 => L_impl_AreEntries_0 n m (S_impl_AreEntries_0 v0_0 v0_1 v0_2 v0_3)) v0_0 v0_1 v0_2 v0_3 := bP_impl_AreEntries_0 N.impl_IsEntry G.impl_IsEntry N.impl_CompareLabels n m v0_0 v0_1 v0_2 v0_3
theorem aP_impl_AreEntries (f_impl_IsEntry : TEntry → Bool) (g_impl_IsEntry : TEntry → Bool) (f_impl_CompareLabels : ByteArray → ByteArray → Int) (n : Nat) (a0 : (List TEntry)) : absF tab sigs (OP_impl_AreEntries f_impl_IsEntry g_impl_IsEntry f_impl_CompareLabels) A_impl_AreEntries Try.f55 [(.bool, .no)] n [.val (.slice 31 TyEntry) a0] = impl_AreEntries_P f_impl_IsEntry g_impl_IsEntry f_impl_CompareLabels (fun r0 => some [⟨.bool, r0⟩]) (fun v0_0 v0_1 v0_2 v0_3 => L_P_impl_AreEntries_0 f_impl_IsEntry g_impl_IsEntry f_impl_CompareLabels n n (S_impl_AreEntries_0 v0_0 v0_1 v0_2 v0_3)) a0 := by kernel_rfl
theorem a_impl_AreEntries (n : Nat) (a0 : (List TEntry)) : absF tab sigs O_impl_AreEntries A_impl_AreEntries Try.f55 [(.bool, .no)] n [.val (.slice 31 TyEntry) a0] = impl_AreEntries (fun r0 => some [⟨.bool, r0⟩]) (fun v0_0 v0_1 v0_2 v0_3 => L_impl_AreEntries_0 n n (S_impl_AreEntries_0 v0_0 v0_1 v0_2 v0_3)) a0 := aP_impl_AreEntries N.impl_IsEntry G.impl_IsEntry N.impl_CompareLabels n a0
theorem said_impl_AreEntries (a0 : (List TEntry)) (g : G.impl_AreEntries a0 = true) : Said Try.prog sigs_55 55 [.val (.slice 31 TyEntry) a0] [⟨.bool, N.impl_AreEntries a0⟩] := said_len (T := tab) (A := A_impl_AreEntries) tabOk ok_impl_AreEntries tabOk.follows Try.func55 (by kernel_rfl) (by kernel_rfl) (fun hl => let ⟨n, hn⟩ := impl_AreEntries_ok (ρ := Ret) (fun r0 => some [⟨.bool, r0⟩]) a0 hl.1 g; ⟨n, (a_impl_AreEntries n a0).trans (hn n (Nat.le_refl n) (fun  m v0_0 v0_1 v0_2 v0_3 => L_impl_AreEntries_0 n  m (S_impl_AreEntries_0 v0_0 v0_1 v0_2 v0_3)) (fun  m v0_0 v0_1 v0_2 v0_3 => b_impl_AreEntries_0 n  m v0_0 v0_1 v0_2 v0_3))⟩)
/-! impl.FindEntry$1 -/
abbrev N.impl_FindEntry_s1 (e : TEntry) (s : ByteArray) : Bool := eqStr e.1 s
def impl_FindEntry_s1 {ρ : Type} (k : Bool → Option ρ) (a0 : TEntry) (a1 : ByteArray) : Option ρ := (k ((ByteArray.toList a0.1) == (ByteArray.toList a1)))
theorem impl_FindEntry_s1_ok {ρ : Type} (k : Bool → Option ρ) (a0 : TEntry) (a1 : ByteArray) (l_a0 : (True ∧ (True ∧ (True ∧ lnL (fun _ => True) a0.2.2.2)))) : impl_FindEntry_s1 k  a0 a1 = k (N.impl_FindEntry_s1 a0 a1) := by
  rfl
def O_impl_FindEntry_s1 : Orac := nilO
theorem ok_impl_FindEntry_s1 : OracOk Try.prog sigs O_impl_FindEntry_s1 := nilO_ok
def A_impl_FindEntry_s1 : Ann := fun b => ⟨[], []⟩
theorem a_impl_FindEntry_s1 (n : Nat) (a0 : TEntry) (a1 : ByteArray) : absF tab sigs O_impl_FindEntry_s1 A_impl_FindEntry_s1 Try.f99 [(.bool, .no)] n [.val TyEntry a0, .ref .str a1] = impl_FindEntry_s1 (fun r0 => some [⟨.bool, r0⟩])  a0 a1 := by kernel_rfl
theorem said_impl_FindEntry_s1 (a0 : TEntry) (a1 : ByteArray) : Said Try.prog sigs_99 99 [.val TyEntry a0, .ref .str a1] [⟨.bool, N.impl_FindEntry_s1 a0 a1⟩] := said_len (T := tab) (A := A_impl_FindEntry_s1) tabOk ok_impl_FindEntry_s1 tabOk.follows Try.func99 (by kernel_rfl) (by kernel_rfl) (fun hl => ⟨0, (a_impl_FindEntry_s1 0 a0 a1).trans (impl_FindEntry_s1_ok (ρ := Ret) (fun r0 => some [⟨.bool, r0⟩]) a0 a1 hl.1)⟩)
/-! slices.IndexFunc[[]impl.Entry,impl.Entry] -/
abbrev N.slices_IndexFunc_impl_Entry__impl_FindEntry_s1 (l : List TEntry) (s : ByteArray) : Int := findEntry l s
def slices_IndexFunc_impl_Entry__impl_FindEntry_s1_L0 {ρ : Type} (k : Int → Option ρ) (L0 : (List TEntry) → ByteArray → Int → Int → Option ρ) (v0_0 : (List TEntry)) (v0_1 : ByteArray) (v0_2 : Int) (v0_3 : Int) : Option ρ := (cond (decide (v0_3 < v0_2)) (cond (inRange v0_3 (List.length v0_0)) (cond (N.impl_FindEntry_s1 (List.getD v0_0 (Int.toNat v0_3) (ByteArray.empty, ((0 : Int), ((0 : Int), [])))) v0_1) (k v0_3) (L0 v0_0 v0_1 v0_2 (IntKind.wrap .i64 (v0_3 + (1 : Int))))) none) (k (-1 : Int)))
def slices_IndexFunc_impl_Entry__impl_FindEntry_s1 {ρ : Type} (k : Int → Option ρ) (L0 : (List TEntry) → ByteArray → Int → Int → Option ρ) (a0 : (List TEntry)) (c1_0 : ByteArray) : Option ρ := (L0 a0 c1_0 (List.length a0 : Int) (0 : Int))
theorem slices_IndexFunc_impl_Entry__impl_FindEntry_s1_ok {ρ : Type} (k : Int → Option ρ) (a0 : (List TEntry)) (c1_0 : ByteArray) (l_a0 : lnL (fun y => (True ∧ (True ∧ (True ∧ lnL (fun _ => True) y.2.2.2)))) a0) : ∃ n0, ∀ n, n0 ≤ n → ∀ (L0 : Nat → (List TEntry) → ByteArray → Int → Int → Option ρ) (h0 : ∀ ( m : Nat) (v0_0 : (List TEntry)) (v0_1 : ByteArray) (v0_2 : Int) (v0_3 : Int), L0 (m + 1) v0_0 v0_1 v0_2 v0_3 = slices_IndexFunc_impl_Entry__impl_FindEntry_s1_L0 k (L0 m) v0_0 v0_1 v0_2 v0_3), slices_IndexFunc_impl_Entry__impl_FindEntry_s1 k (L0 n) a0 c1_0 = k (N.slices_IndexFunc_impl_Entry__impl_FindEntry_s1 a0 c1_0) := by
  refine ⟨a0.length + 1, fun n hn L0 h0 => ?_⟩
  refine raw_idx (a := a0) (ByteArray.empty, (0, (0, []))) (fun e => eqStr e.1 c1_0) (k := k) (σ := Unit) (s := ()) (L := fun m i _ => L0 m a0 c1_0 (a0.length : Int) i) (R := fun i s c => slices_IndexFunc_impl_Entry__impl_FindEntry_s1_L0 k (fun _ _ _ i => c i ()) a0 c1_0 (a0.length : Int) i) (fun m i s => h0 m a0 c1_0 (a0.length : Int) i) (fun j s c hj => ?_) (fun s c => ?_) hn
  · have : j < big := by have := l_a0.1; omega
    simp [slices_IndexFunc_impl_Entry__impl_FindEntry_s1_L0, lt_nat, inRange_nat, hj, wrap_succ this, eqStr]
  · simp [slices_IndexFunc_impl_Entry__impl_FindEntry_s1_L0]
def OP_slices_IndexFunc_impl_Entry__impl_FindEntry_s1 (f_impl_FindEntry_s1 : TEntry → ByteArray → Bool) : Orac := (orcX 99 [.val TyEntry, .ref .str] (fun d => true) (fun d => [⟨.bool, f_impl_FindEntry_s1 d.1 d.2.1⟩]) nilO)
def O_slices_IndexFunc_impl_Entry__impl_FindEntry_s1 : Orac := OP_slices_IndexFunc_impl_Entry__impl_FindEntry_s1 N.impl_FindEntry_s1
def slices_IndexFunc_impl_Entry__impl_FindEntry_s1_P_L0 {ρ : Type} (f_impl_FindEntry_s1 : TEntry → ByteArray → Bool) (k : Int → Option ρ) (L0 : (List TEntry) → ByteArray → Int → Int → Option ρ) (v0_0 : (List TEntry)) (v0_1 : ByteArray) (v0_2 : Int) (v0_3 : Int) : Option ρ := (cond (decide (v0_3 < v0_2)) (cond (inRange v0_3 (List.length v0_0)) (cond (f_impl_FindEntry_s1 (List.getD v0_0 (Int.toNat v0_3) (ByteArray.empty, ((0 : Int), ((0 : Int), [])))) v0_1) (k v0_3) (L0 v0_0 v0_1 v0_2 (IntKind.wrap .i64 (v0_3 + (1 : Int))))) none) (k (-1 : Int)))
def slices_IndexFunc_impl_Entry__impl_FindEntry_s1_P {ρ : Type} (f_impl_FindEntry_s1 : TEntry → ByteArray → Bool) (k : Int → Option ρ) (L0 : (List TEntry) → ByteArray → Int → Int → Option ρ) (a0 : (List TEntry)) (c1_0 : ByteArray) : Option ρ := (L0 a0 c1_0 (List.length a0 : Int) (0 : Int))
theorem ok_slices_IndexFunc_impl_Entry__impl_FindEntry_s1 : OracOk Try.prog sigs O_slices_IndexFunc_impl_Entry__impl_FindEntry_s1 := (orcX_ok rfl rfl (fun d g => said_impl_FindEntry_s1 d.1 d.2.1) nilO_ok)
def A_slices_IndexFunc_impl_Entry__impl_FindEntry_s1 : Ann := fun b => cond (Nat.beq b 0) ⟨[(0, false), (1, false), (7, false), (8, false)], []⟩ (⟨[], []⟩)
def S_slices_IndexFunc_impl_Entry__impl_FindEntry_s1_0 (v0_0 : (List TEntry)) (v0_1 : ByteArray) (v0_2 : Int) (v0_3 : Int) : St := [(kT 0, some (.tv (.v (.slice 31 TyEntry) v0_0 .no))), (kT 1, some (.tv (.clo 99 [(.ref .str v0_1)]))), (kT 7, some (.tv (.v (.int .i64) v0_2 .no))), (kT 8, some (.tv (.v (.int .i64) v0_3 .no)))]
noncomputable def L_P_slices_IndexFunc_impl_Entry__impl_FindEntry_s1_0 (f_impl_FindEntry_s1 : TEntry → ByteArray → Bool) (n m : Nat) : St → Option Ret := loopOf tab sigs (OP_slices_IndexFunc_impl_Entry__impl_FindEntry_s1 f_impl_FindEntry_s1) A_slices_IndexFunc_impl_Entry__impl_FindEntry_s1 Try.f98 [((.int .i64), .no)] n (fun _ => 0) 0 m
noncomputable def L_slices_IndexFunc_impl_Entry__impl_FindEntry_s1_0 (n m : Nat) : St → Option Ret := L_P_slices_IndexFunc_impl_Entry__impl_FindEntry_s1_0 N.impl_FindEntry_s1 n m
theorem bP_slices_IndexFunc_impl_Entry__impl_FindEntry_s1_0 (f_impl_FindEntry_s1 : TEntry → ByteArray → Bool) (n m : Nat) (v0_0 : (List TEntry)) (v0_1 : ByteArray) (v0_2 : Int) (v0_3 : Int) : L_P_slices_IndexFunc_impl_Entry__impl_FindEntry_s1_0 f_impl_FindEntry_s1 n (m + 1) (S_slices_IndexFunc_impl_Entry__impl_FindEntry_s1_0 v0_0 v0_1 v0_2 v0_3) = slices_IndexFunc_impl_Entry__impl_FindEntry_s1_P_L0 f_impl_FindEntry_s1 (fun r0 => some [⟨(.int .i64), r0⟩]) (fun v0_0 v0_1 v0_2 v0_3 => L_P_slices_IndexFunc_impl_Entry__impl_FindEntry_s1_0 f_impl_FindEntry_s1 n m (S_slices_IndexFunc_impl_Entry__impl_FindEntry_s1_0 v0_0 v0_1 v0_2 v0_3)) v0_0 v0_1 v0_2 v0_3 := by kernel_rfl
theorem b_slices_IndexFunc_impl_Entry__impl_FindEntry_s1_0 (n m : Nat) (v0_0 : (List TEntry)) (v0_1 : ByteArray) (v0_2 : Int) (v0_3 : Int) : L_slices_IndexFunc_impl_Entry__impl_FindEntry_s1_0 n (m + 1) (S_slices_IndexFunc_impl_Entry__impl_FindEntry_s1_0 v0_0 v0_1 v0_2 v0_3) = slices_IndexFunc_impl_Entry__impl_FindEntry_s1_L0 (fun r0 => some [⟨(.int .i64), r0⟩]) (fun v0_0 v0_1 v0_2 v0_3 => L_slices_IndexFunc_impl_Entry__impl_FindEntry_s1_0 n m (S_slices_IndexFunc_impl_Entry__impl_FindEntry_s1_0 v0_0 v0_1 v0_2 v0_3)) v0_0 v0_1 v0_2 v0_3 := bP_slices_IndexFunc_impl_Entry__impl_FindEntry_s1_0 N.impl_FindEntry_s1 n m v0_0 v0_1 v0_2 v0_3
theorem aP_slices_IndexFunc_impl_Entry__impl_FindEntry_s1 (f_impl_FindEntry_s1 : TEntry → ByteArray → Bool) (n : Nat) (a0 : (List TEntry)) (c1_0 : ByteArray) : absF tab sigs (OP_slices_IndexFunc_impl_Entry__impl_FindEntry_s1 f_impl_FindEntry_s1) A_slices_IndexFunc_impl_Entry__impl_FindEntry_s1 Try.f98 [((.int .i64), .no)] n [.val (.slice 31 TyEntry) a0, .clo 99 [.ref .str c1_0]] = slices_IndexFunc_impl_Entry__impl_FindEntry_s1_P f_impl_FindEntry_s1 (fun r0 => some [⟨(.int .i64), r0⟩]) (fun v0_0 v0_1 v0_2 v0_3 => L_P_slices_IndexFunc_impl_Entry__impl_FindEntry_s1_0 f_impl_FindEntry_s1 n n (S_slices_IndexFunc_impl_Entry__impl_FindEntry_s1_0 v0_0 v0_1 v0_2 v0_3)) a0 c1_0 := by kernel_rfl
theorem a_slices_IndexFunc_impl_Entry__impl_FindEntry_s1 (n : Nat) (a0 : (List TEntry)) (c1_0 : ByteArray) : absF tab sigs O_slices_IndexFunc_impl_Entry__impl_FindEntry_s1 A_slices_IndexFunc_impl_Entry__impl_FindEntry_s1 Try.f98 [((.int .i64), .no)] n [.val (.slice 31 TyEntry) a0, .clo 99 [.ref .str c1_0]] = slices_IndexFunc_impl_Entry__impl_FindEntry_s1 (fun r0 => some [⟨(.int .i64), r0⟩]) (fun v0_0 v0_1 v0_2 v0_3 => L_slices_IndexFunc_impl_Entry__impl_FindEntry_s1_0 n n (S_slices_IndexFunc_impl_Entry__impl_FindEntry_s1_0 v0_0 v0_1 v0_2 v0_3)) a0 c1_0 := aP_slices_IndexFunc_impl_Entry__impl_FindEntry_s1 N.impl_FindEntry_s1 n a0 c1_0
theorem said_slices_IndexFunc_impl_Entry__impl_FindEntry_s1 (a0 : (List TEntry)) (c1_0 : ByteArray) : Said Try.prog sigs_98 98 [.val (.slice 31 TyEntry) a0, .clo 99 [.ref .str c1_0]] [⟨(.int .i64), N.slices_IndexFunc_impl_Entry__impl_FindEntry_s1 a0 c1_0⟩] := said_len (T := tab) (A := A_slices_IndexFunc_impl_Entry__impl_FindEntry_s1) tabOk ok_slices_IndexFunc_impl_Entry__impl_FindEntry_s1 tabOk.follows Try.func98 (by kernel_rfl) (by kernel_rfl) (fun hl => let ⟨n, hn⟩ := slices_IndexFunc_impl_Entry__impl_FindEntry_s1_ok (ρ := Ret) (fun r0 => some [⟨(.int .i64), r0⟩]) a0 c1_0 hl.1; ⟨n, (a_slices_IndexFunc_impl_Entry__impl_FindEntry_s1 n a0 c1_0).trans (hn n (Nat.le_refl n) (fun  m v0_0 v0_1 v0_2 v0_3 => L_slices_IndexFunc_impl_Entry__impl_FindEntry_s1_0 n  m (S_slices_IndexFunc_impl_Entry__impl_FindEntry_s1_0 v0_0 v0_1 v0_2 v0_3)) (fun  m v0_0 v0_1 v0_2 v0_3 => b_slices_IndexFunc_impl_Entry__impl_FindEntry_s1_0 n  m v0_0 v0_1 v0_2 v0_3))⟩)
/-! impl.FindEntry -/
abbrev N.impl_FindEntry (l : List TEntry) (s : ByteArray) : Int := findEntry l s
def impl_FindEntry {ρ : Type} (k : Int → Option ρ) (a0 : (List TEntry)) (a1 : ByteArray) : Option ρ := (k (N.slices_IndexFunc_impl_Entry__impl_FindEntry_s1 a0 a1))
theorem impl_FindEntry_ok {ρ : Type} (k : Int → Option ρ) (a0 : (List TEntry)) (a1 : ByteArray) (l_a0 : lnL (fun y => (True ∧ (True ∧ (True ∧ lnL (fun _ => True) y.2.2.2)))) a0) : impl_FindEntry k  a0 a1 = k (N.impl_FindEntry a0 a1) := by
  rfl
def OP_impl_FindEntry (f_slices_IndexFunc_impl_Entry__impl_FindEntry_s1 : (List TEntry) → ByteArray → Int) : Orac := (orcX 98 [.val (.slice 31 TyEntry), .clo 99 [.str]] (fun d => true) (fun d => [⟨(.int .i64), f_slices_IndexFunc_impl_Entry__impl_FindEntry_s1 d.1 d.2.1.1⟩]) nilO)
def O_impl_FindEntry : Orac := OP_impl_FindEntry N.slices_IndexFunc_impl_Entry__impl_FindEntry_s1
def impl_FindEntry_P {ρ : Type} (f_slices_IndexFunc_impl_Entry__impl_FindEntry_s1 : (List TEntry) → ByteArray → Int) (k : Int → Option ρ) (a0 : (List TEntry)) (a1 : ByteArray) : Option ρ := (k (f_slices_IndexFunc_impl_Entry__impl_FindEntry_s1 a0 a1))
theorem ok_impl_FindEntry : OracOk Try.prog sigs O_impl_FindEntry := (orcX_ok rfl rfl (fun d g => said_slices_IndexFunc_impl_Entry__impl_FindEntry_s1 d.1 d.2.1.1) nilO_ok)
def A_impl_FindEntry : Ann := fun b => ⟨[], []⟩
theorem aP_impl_FindEntry (f_slices_IndexFunc_impl_Entry__impl_FindEntry_s1 : (List TEntry) → ByteArray → Int) (n : Nat) (a0 : (List TEntry)) (a1 : ByteArray) : absF tab sigs (OP_impl_FindEntry f_slices_IndexFunc_impl_Entry__impl_FindEntry_s1) A_impl_FindEntry Try.f60 [((.int .i64), .no)] n [.val (.slice 31 TyEntry) a0, .val .str a1] = impl_FindEntry_P f_slices_IndexFunc_impl_Entry__impl_FindEntry_s1 (fun r0 => some [⟨(.int .i64), r0⟩])  a0 a1 := by kernel_rfl
theorem a_impl_FindEntry (n : Nat) (a0 : (List TEntry)) (a1 : ByteArray) : absF tab sigs O_impl_FindEntry A_impl_FindEntry Try.f60 [((.int .i64), .no)] n [.val (.slice 31 TyEntry) a0, .val .str a1] = impl_FindEntry (fun r0 => some [⟨(.int .i64), r0⟩])  a0 a1 := aP_impl_FindEntry N.slices_IndexFunc_impl_Entry__impl_FindEntry_s1 n a0 a1
theorem said_impl_FindEntry (a0 : (List TEntry)) (a1 : ByteArray) : Said Try.prog sigs_60 60 [.val (.slice 31 TyEntry) a0, .val .str a1] [⟨(.int .i64), N.impl_FindEntry a0 a1⟩] := said_len (T := tab) (A := A_impl_FindEntry) tabOk ok_impl_FindEntry tabOk.follows Try.func60 (by kernel_rfl) (by kernel_rfl) (fun hl => ⟨0, (a_impl_FindEntry 0 a0 a1).trans (impl_FindEntry_ok (ρ := Ret) (fun r0 => some [⟨(.int .i64), r0⟩]) a0 a1 hl.1)⟩)
/-! impl.RankOf -/
abbrev N.impl_RankOf (l : List TEntry) (s : ByteArray) : Int := rankOf l s
def impl_RankOf_L0 {ρ : Type} (k : Int → Option ρ) (L0 : ByteArray → Int → (List TEntry) → Int → Int → Option ρ) (v0_0 : ByteArray) (v0_1 : Int) (v0_2 : (List TEntry)) (v0_3 : Int) (v0_4 : Int) : Option ρ := (cond (decide (v0_4 < v0_3)) (cond (inRange v0_4 (List.length v0_2)) (cond (decide ((N.impl_CompareLabels (List.getD v0_2 (Int.toNat v0_4) (ByteArray.empty, ((0 : Int), ((0 : Int), [])))).1 v0_0) < (0 : Int))) (L0 v0_0 (IntKind.wrap .i64 (v0_1 + (1 : Int))) v0_2 v0_3 (IntKind.wrap .i64 (v0_4 + (1 : Int)))) (L0 v0_0 v0_1 v0_2 v0_3 (IntKind.wrap .i64 (v0_4 + (1 : Int))))) none) (k v0_1))
def impl_RankOf {ρ : Type} (k : Int → Option ρ) (L0 : ByteArray → Int → (List TEntry) → Int → Int → Option ρ) (a0 : (List TEntry)) (a1 : ByteArray) : Option ρ := (L0 a1 (0 : Int) a0 (List.length a0 : Int) (0 : Int))
theorem impl_RankOf_ok {ρ : Type} (k : Int → Option ρ) (a0 : (List TEntry)) (a1 : ByteArray) (l_a0 : lnL (fun y => (True ∧ (True ∧ (True ∧ lnL (fun _ => True) y.2.2.2)))) a0) : ∃ n0, ∀ n, n0 ≤ n → ∀ (L0 : Nat → ByteArray → Int → (List TEntry) → Int → Int → Option ρ) (h0 : ∀ ( m : Nat) (v0_0 : ByteArray) (v0_1 : Int) (v0_2 : (List TEntry)) (v0_3 : Int) (v0_4 : Int), L0 (m + 1) v0_0 v0_1 v0_2 v0_3 v0_4 = impl_RankOf_L0 k (L0 m) v0_0 v0_1 v0_2 v0_3 v0_4), impl_RankOf k (L0 n) a0 a1 = k (N.impl_RankOf a0 a1) := by
  refine ⟨a0.length + 1, fun n hn L0 h0 => ?_⟩
  refine raw_foldl (a := a0) (ByteArray.empty, (0, (0, []))) (fun n e => cond (decide (cmpStr e.1 a1 < 0)) (IntKind.wrap .i64 (n + 1)) n) (k := k) (s := 0) (L := fun m i s => L0 m a1 s a0 (a0.length : Int) i) (R := fun i s c => impl_RankOf_L0 k (fun _ s _ _ i => c i s) a1 s a0 (a0.length : Int) i) (fun m i s => h0 m a1 s a0 (a0.length : Int) i) (fun _ _ => True) (fun j s c hj _ => ?_) (fun _ _ _ _ => trivial) (fun s c => ?_) hn trivial
  · have : j < big := by have := l_a0.1; omega
    simp only [impl_RankOf_L0, lt_nat, inRange_nat, decide_eq_true hj, cond_true, Int.toNat_natCast, wrap_succ this, N.impl_CompareLabels]
    cases decide (cmpStr (a0.getD j (ByteArray.empty, (0, (0, [])))).1 a1 < 0) <;> rfl
  · simp [impl_RankOf_L0]
def OP_impl_RankOf (f_impl_CompareLabels : ByteArray → ByteArray → Int) : Orac := (orcX 74 [.val .str, .val .str] (fun d => true) (fun d => [⟨(.int .i64), f_impl_CompareLabels d.1 d.2.1⟩]) nilO)
def O_impl_RankOf : Orac := OP_impl_RankOf N.impl_CompareLabels
def impl_RankOf_P_L0 {ρ : Type} (f_impl_CompareLabels : ByteArray → ByteArray → Int) (k : Int → Option ρ) (L0 : ByteArray → Int → (List TEntry) → Int → Int → Option ρ) (v0_0 : ByteArray) (v0_1 : Int) (v0_2 : (List TEntry)) (v0_3 : Int) (v0_4 : Int) : Option ρ := (cond (decide (v0_4 < v0_3)) (cond (inRange v0_4 (List.length v0_2)) (cond (decide ((f_impl_CompareLabels (List.getD v0_2 (Int.toNat v0_4) (ByteArray.empty, ((0 : Int), ((0 : Int), [])))).1 v0_0) < (0 : Int))) (L0 v0_0 (IntKind.wrap .i64 (v0_1 + (1 : Int))) v0_2 v0_3 (IntKind.wrap .i64 (v0_4 + (1 : Int)))) (L0 v0_0 v0_1 v0_2 v0_3 (IntKind.wrap .i64 (v0_4 + (1 : Int))))) none) (k v0_1))
def impl_RankOf_P {ρ : Type} (f_impl_CompareLabels : ByteArray → ByteArray → Int) (k : Int → Option ρ) (L0 : ByteArray → Int → (List TEntry) → Int → Int → Option ρ) (a0 : (List TEntry)) (a1 : ByteArray) : Option ρ := (L0 a1 (0 : Int) a0 (List.length a0 : Int) (0 : Int))
theorem ok_impl_RankOf : OracOk Try.prog sigs O_impl_RankOf := (orcX_ok rfl rfl (fun d g => said_impl_CompareLabels d.1 d.2.1) nilO_ok)
def A_impl_RankOf : Ann := fun b => cond (Nat.beq b 0) ⟨[(1, false), (5, false), (8, false), (9, false), (10, false)], []⟩ (⟨[], []⟩)
def S_impl_RankOf_0 (v0_0 : ByteArray) (v0_1 : Int) (v0_2 : (List TEntry)) (v0_3 : Int) (v0_4 : Int) : St := [(kT 1, some (.tv (.v .str v0_0 .no))), (kT 5, some (.tv (.v (.int .i64) v0_1 .no))), (kT 8, some (.tv (.v (.slice 31 TyEntry) v0_2 .no))), (kT 9, some (.tv (.v (.int .i64) v0_3 .no))), (kT 10, some (.tv (.v (.int .i64) v0_4 .no)))]
noncomputable def L_P_impl_RankOf_0 (f_impl_CompareLabels : ByteArray → ByteArray → Int) (n m : Nat) : St → Option Ret := loopOf tab sigs (OP_impl_RankOf f_impl_CompareLabels) A_impl_RankOf Try.f77 [((.int .i64), .no)] n (fun _ => 0) 0 m
noncomputable def L_impl_RankOf_0 (n m : Nat) : St → Option Ret := L_P_impl_RankOf_0 N.impl_CompareLabels n m
theorem bP_impl_RankOf_0 (f_impl_CompareLabels : ByteArray → ByteArray → Int) (n m : Nat) (v0_0 : ByteArray) (v0_1 : Int) (v0_2 : (List TEntry)) (v0_3 : Int) (v0_4 : Int) : L_P_impl_RankOf_0 f_impl_CompareLabels n (m + 1) (S_impl_RankOf_0 v0_0 v0_1 v0_2 v0_3 v0_4) = impl_RankOf_P_L0 f_impl_CompareLabels (fun r0 => some [⟨(.int .i64), r0⟩]) (fun v0_0 v0_1 v0_2 v0_3 v0_4 => L_P_impl_RankOf_0 f_impl_CompareLabels n m (S_impl_RankOf_0 v0_0 v0_1 v0_2 v0_3 v0_4)) v0_0 v0_1 v0_2 v0_3 v0_4 := by kernel_rfl
theorem b_impl_RankOf_0 (n m : Nat) (v0_0 : ByteArray) (v0_1 : Int) (v0_2 : (List TEntry)) (v0_3 : Int) (v0_4 : Int) : L_impl_RankOf_0 n (m + 1) (S_impl_RankOf_0 v0_0 v0_1 v0_2 v0_3 v0_4) = impl_RankOf_L0 (fun r0 => some [⟨(.int .i64), r0⟩]) (fun v0_0 v0_1 v0_2 v0_3 v0_4 => L_impl_RankOf_0 n m (S_impl_RankOf_0 v0_0 v0_1 v0_2 v0_3 v0_4)) v0_0 v0_1 v0_2 v0_3 v0_4 := bP_impl_RankOf_0 N.impl_CompareLabels n m v0_0 v0_1 v0_2 v0_3 v0_4
theorem aP_impl_RankOf (f_impl_CompareLabels : ByteArray → ByteArray → Int) (n : Nat) (a0 : (List TEntry)) (a1 : ByteArray) : absF tab sigs (OP_impl_RankOf f_impl_CompareLabels) A_impl_RankOf Try.f77 [((.int .i64), .no)] n [.val (.slice 31 TyEntry) a0, .val .str a1] = impl_RankOf_P f_impl_CompareLabels (fun r0 => some [⟨(.int .i64), r0⟩]) (fun v0_0 v0_1 v0_2 v0_3 v0_4 => L_P_impl_RankOf_0 f_impl_CompareLabels n n (S_impl_RankOf_0 v0_0 v0_1 v0_2 v0_3 v0_4)) a0 a1 := by kernel_rfl
theorem a_impl_RankOf (n : Nat) (a0 : (List TEntry)) (a1 : ByteArray) : absF tab sigs O_impl_RankOf A_impl_RankOf Try.f77 [((.int .i64), .no)] n [.val (.slice 31 TyEntry) a0, .val .str a1] = impl_RankOf (fun r0 => some [⟨(.int .i64), r0⟩]) (fun v0_0 v0_1 v0_2 v0_3 v0_4 => L_impl_RankOf_0 n n (S_impl_RankOf_0 v0_0 v0_1 v0_2 v0_3 v0_4)) a0 a1 := aP_impl_RankOf N.impl_CompareLabels n a0 a1
theorem said_impl_RankOf (a0 : (List TEntry)) (a1 : ByteArray) : Said Try.prog sigs_77 77 [.val (.slice 31 TyEntry) a0, .val .str a1] [⟨(.int .i64), N.impl_RankOf a0 a1⟩] := said_len (T := tab) (A := A_impl_RankOf) tabOk ok_impl_RankOf tabOk.follows Try.func77 (by kernel_rfl) (by kernel_rfl) (fun hl => let ⟨n, hn⟩ := impl_RankOf_ok (ρ := Ret) (fun r0 => some [⟨(.int .i64), r0⟩]) a0 a1 hl.1; ⟨n, (a_impl_RankOf n a0 a1).trans (hn n (Nat.le_refl n) (fun  m v0_0 v0_1 v0_2 v0_3 v0_4 => L_impl_RankOf_0 n  m (S_impl_RankOf_0 v0_0 v0_1 v0_2 v0_3 v0_4)) (fun  m v0_0 v0_1 v0_2 v0_3 v0_4 => b_impl_RankOf_0 n  m v0_0 v0_1 v0_2 v0_3 v0_4))⟩)
/-! slices.Clone[[]string,string] -/
abbrev G.slices_Clone_string (a : List ByteArray) : Bool := decide (a.length ≤ 1048576)
abbrev N.slices_Clone_string (a : List ByteArray) : List ByteArray := a
noncomputable def slices_Clone_string {ρ : Type} (k : (List ByteArray) → Option ρ) (a0 : (List ByteArray)) : Option ρ := (cond (List.isEmpty a0) (both (k []) (cond (fit (List.length ([] : (List ByteArray))) (List.length a0)) (k (List.append ([] : (List ByteArray)) a0)) none)) (cond (fit (List.length ([] : (List ByteArray))) (List.length a0)) (k (List.append ([] : (List ByteArray)) a0)) none))
theorem slices_Clone_string_ok {ρ : Type} (k : (List ByteArray) → Option ρ) (a0 : (List ByteArray)) (l_a0 : lnL (fun _ => True) a0) (g : G.slices_Clone_string a0 = true) : slices_Clone_string k  a0 = k (N.slices_Clone_string a0) := by
  unfold G.slices_Clone_string at g
  have h1 : fit (List.length ([] : List ByteArray)) (List.length a0) = true := fit_of (by have := of_decide_eq_true g; simp; omega)
  unfold slices_Clone_string
  rw [h1]
  cases a0 with
  | nil => exact both_self _
  | cons x l => rfl
def O_slices_Clone_string : Orac := nilO
theorem ok_slices_Clone_string : OracOk Try.prog sigs O_slices_Clone_string := nilO_ok
def A_slices_Clone_string : Ann := fun b => ⟨[], []⟩
theorem a_slices_Clone_string (n : Nat) (a0 : (List ByteArray)) : absF tab sigs O_slices_Clone_string A_slices_Clone_string Try.f107 [((.slice 9 .str), (.own 0))] n [.val (.slice 9 .str) a0] = slices_Clone_string (fun r0 => some [⟨(.slice 9 .str), r0⟩])  a0 := by kernel_rfl
theorem said_slices_Clone_string (a0 : (List ByteArray)) (g : G.slices_Clone_string a0 = true) : Said Try.prog sigs_107 107 [.val (.slice 9 .str) a0] [⟨(.slice 9 .str), N.slices_Clone_string a0⟩] := said_len (T := tab) (A := A_slices_Clone_string) tabOk ok_slices_Clone_string tabOk.follows Try.func107 (by kernel_rfl) (by kernel_rfl) (fun hl => ⟨0, (a_slices_Clone_string 0 a0).trans (slices_Clone_string_ok (ρ := Ret) (fun r0 => some [⟨(.slice 9 .str), r0⟩]) a0 hl.1 g)⟩)
/-! impl.copyEntry -/
abbrev G.impl_copyEntry (e : TEntry) : Bool := decide (e.2.2.2.length ≤ 1048576)
abbrev N.impl_copyEntry (e : TEntry) : TEntry := e
def impl_copyEntry {ρ : Type} (k : TEntry → Option ρ) (a0 : TEntry) : Option ρ := (cond (G.slices_Clone_string a0.2.2.2) (k (a0.1, (a0.2.1, (a0.2.2.1, (N.slices_Clone_string a0.2.2.2))))) none)
theorem impl_copyEntry_ok {ρ : Type} (k : TEntry → Option ρ) (a0 : TEntry) (l_a0 : (True ∧ (True ∧ (True ∧ lnL (fun _ => True) a0.2.2.2)))) (g : G.impl_copyEntry a0 = true) : impl_copyEntry k  a0 = k (N.impl_copyEntry a0) := by
  unfold G.impl_copyEntry at g
  simp only [impl_copyEntry, G.slices_Clone_string, N.slices_Clone_string, g, cond_true]
def OP_impl_copyEntry (f_slices_Clone_string : (List ByteArray) → (List ByteArray)) (g_slices_Clone_string : (List ByteArray) → Bool) : Orac := (orcX 107 [.val (.slice 9 .str)] (fun d => g_slices_Clone_string d.1) (fun d => [⟨(.slice 9 .str), f_slices_Clone_string d.1⟩]) nilO)
def O_impl_copyEntry : Orac := OP_impl_copyEntry N.slices_Clone_string G.slices_Clone_string
def impl_copyEntry_P {ρ : Type} (f_slices_Clone_string : (List ByteArray) → (List ByteArray)) (g_slices_Clone_string : (List ByteArray) → Bool) (k : TEntry → Option ρ) (a0 : TEntry) : Option ρ := (cond (g_slices_Clone_string a0.2.2.2) (k (a0.1, (a0.2.1, (a0.2.2.1, (f_slices_Clone_string a0.2.2.2))))) none)
theorem ok_impl_copyEntry : OracOk Try.prog sigs O_impl_copyEntry := (orcX_ok rfl rfl (fun d g => said_slices_Clone_string d.1 g) nilO_ok)
def A_impl_copyEntry : Ann := fun b => ⟨[], []⟩
theorem aP_impl_copyEntry (f_slices_Clone_string : (List ByteArray) → (List ByteArray)) (g_slices_Clone_string : (List ByteArray) → Bool) (n : Nat) (a0 : TEntry) : absF tab sigs (OP_impl_copyEntry f_slices_Clone_string g_slices_Clone_string) A_impl_copyEntry Try.f78 [(TyEntry, (.pair .no (.pair .no (.pair .no (.own 0)))))] n [.val TyEntry a0] = impl_copyEntry_P f_slices_Clone_string g_slices_Clone_string (fun r0 => some [⟨TyEntry, r0⟩])  a0 := by kernel_rfl
theorem a_impl_copyEntry (n : Nat) (a0 : TEntry) : absF tab sigs O_impl_copyEntry A_impl_copyEntry Try.f78 [(TyEntry, (.pair .no (.pair .no (.pair .no (.own 0)))))] n [.val TyEntry a0] = impl_copyEntry (fun r0 => some [⟨TyEntry, r0⟩])  a0 := aP_impl_copyEntry N.slices_Clone_string G.slices_Clone_string n a0
theorem said_impl_copyEntry (a0 : TEntry) (g : G.impl_copyEntry a0 = true) : Said Try.prog sigs_78 78 [.val TyEntry a0] [⟨TyEntry, N.impl_copyEntry a0⟩] := said_len (T := tab) (A := A_impl_copyEntry) tabOk ok_impl_copyEntry tabOk.follows Try.func78 (by kernel_rfl) (by kernel_rfl) (fun hl => ⟨0, (a_impl_copyEntry 0 a0).trans (impl_copyEntry_ok (ρ := Ret) (fun r0 => some [⟨TyEntry, r0⟩]) a0 hl.1 g)⟩)
/-! impl.BytesToInts -/
abbrev G.impl_BytesToInts (b : List Int) : Bool := decide (b.length ≤ 1048577)
abbrev N.impl_BytesToInts (b : List Int) : List Int := bytesInts b
def impl_BytesToInts_L0 {ρ : Type} (k : (List Int) → Option ρ) (L0 : (List Int) → Int → Int → (List Int) → Option ρ) (v0_0 : (List Int)) (v0_1 : Int) (v0_2 : Int) (v0_3 : (List Int)) : Option ρ := (cond (decide (v0_2 < v0_1)) (cond (inRange v0_2 (List.length v0_0)) (cond (fit (List.length v0_3) (List.length [(IntKind.wrap .i64 (List.getD v0_0 (Int.toNat v0_2) (0 : Int)))])) (L0 v0_0 v0_1 (IntKind.wrap .i64 (v0_2 + (1 : Int))) (List.append v0_3 [(IntKind.wrap .i64 (List.getD v0_0 (Int.toNat v0_2) (0 : Int)))])) none) none) (k v0_3))
def impl_BytesToInts {ρ : Type} (k : (List Int) → Option ρ) (L0 : (List Int) → Int → Int → (List Int) → Option ρ) (a0 : (List Int)) : Option ρ := (L0 a0 (List.length a0 : Int) (0 : Int) [(List.length a0 : Int)])
theorem impl_BytesToInts_ok {ρ : Type} (k : (List Int) → Option ρ) (a0 : (List Int)) (l_a0 : lnL (fun _ => True) a0) (g : G.impl_BytesToInts a0 = true) : ∃ n0, ∀ n, n0 ≤ n → ∀ (L0 : Nat → (List Int) → Int → Int → (List Int) → Option ρ) (h0 : ∀ ( m : Nat) (v0_0 : (List Int)) (v0_1 : Int) (v0_2 : Int) (v0_3 : (List Int)), L0 (m + 1) v0_0 v0_1 v0_2 v0_3 = impl_BytesToInts_L0 k (L0 m) v0_0 v0_1 v0_2 v0_3), impl_BytesToInts k (L0 n) a0 = k (N.impl_BytesToInts a0) := by
  unfold G.impl_BytesToInts at g
  have hlen : a0.length ≤ 1048577 := of_decide_eq_true g
  refine ⟨a0.length + 1, fun n hn L0 h0 => ?_⟩
  refine (raw_foldl (a := a0) 0 (fun o x => o ++ [IntKind.wrap .i64 x]) (k := k) (s := [(a0.length : Int)]) (L := fun m i s => L0 m a0 (a0.length : Int) i s) (R := fun i s c => impl_BytesToInts_L0 k (fun _ _ i s => c i s) a0 (a0.length : Int) i s) (fun m i s => h0 m a0 (a0.length : Int) i s) (fun j o => o.length ≤ j + 1) (fun j s c hj hI => ?_) (fun j s hj hI => by simp; exact hI) (fun s c => ?_) hn (by simp)).trans (by rw [foldl_app]; rfl)
  · have : j < big := by unfold big; omega
    have e3 : fit s.length 1 = true := fit_of (by omega)
    simp only [impl_BytesToInts_L0, lt_nat, inRange_nat, decide_eq_true hj, cond_true, Int.toNat_natCast, List.length_singleton, e3, wrap_succ this, List.append_eq]
  · simp [impl_BytesToInts_L0]
def O_impl_BytesToInts : Orac := nilO
theorem ok_impl_BytesToInts : OracOk Try.prog sigs O_impl_BytesToInts := nilO_ok
def A_impl_BytesToInts : Ann := fun b => cond (Nat.beq b 0) ⟨[(3, true), (9, false), (10, false), (11, false)], []⟩ (⟨[], []⟩)
def S_impl_BytesToInts_0 (v0_0 : (List Int)) (v0_1 : Int) (v0_2 : Int) (v0_3 : (List Int)) : St := [(kT 3, some (.tv (.v (.slice 3 (.int .i64)) [] (.own 24)))), (kT 9, some (.tv (.v (.slice 5 (.int .u8)) v0_0 .no))), (kT 10, some (.tv (.v (.int .i64) v0_1 .no))), (kT 11, some (.tv (.v (.int .i64) v0_2 .no))), (kR 24, some (.row 3 (.int .i64) v0_3))]
noncomputable def L_impl_BytesToInts_0 (n m : Nat) : St → Option Ret := loopOf tab sigs O_impl_BytesToInts A_impl_BytesToInts Try.f120 [((.slice 3 (.int .i64)), (.own 0))] n (fun _ => 0) 0 m
theorem b_impl_BytesToInts_0 (n m : Nat) (v0_0 : (List Int)) (v0_1 : Int) (v0_2 : Int) (v0_3 : (List Int)) : L_impl_BytesToInts_0 n (m + 1) (S_impl_BytesToInts_0 v0_0 v0_1 v0_2 v0_3) = impl_BytesToInts_L0 (fun r0 => some [⟨(.slice 3 (.int .i64)), r0⟩]) (fun v0_0 v0_1 v0_2 v0_3 => L_impl_BytesToInts_0 n m (S_impl_BytesToInts_0 v0_0 v0_1 v0_2 v0_3)) v0_0 v0_1 v0_2 v0_3 := by kernel_rfl
theorem a_impl_BytesToInts (n : Nat) (a0 : (List Int)) : absF tab sigs O_impl_BytesToInts A_impl_BytesToInts Try.f120 [((.slice 3 (.int .i64)), (.own 0))] n [.val (.slice 5 (.int .u8)) a0] = impl_BytesToInts (fun r0 => some [⟨(.slice 3 (.int .i64)), r0⟩]) (fun v0_0 v0_1 v0_2 v0_3 => L_impl_BytesToInts_0 n n (S_impl_BytesToInts_0 v0_0 v0_1 v0_2 v0_3)) a0 := by kernel_rfl
theorem said_impl_BytesToInts (a0 : (List Int)) (g : G.impl_BytesToInts a0 = true) : Said Try.prog sigs_120 120 [.val (.slice 5 (.int .u8)) a0] [⟨(.slice 3 (.int .i64)), N.impl_BytesToInts a0⟩] := said_len (T := tab) (A := A_impl_BytesToInts) tabOk ok_impl_BytesToInts tabOk.follows Try.func120 (by kernel_rfl) (by kernel_rfl) (fun hl => let ⟨n, hn⟩ := impl_BytesToInts_ok (ρ := Ret) (fun r0 => some [⟨(.slice 3 (.int .i64)), r0⟩]) a0 hl.1 g; ⟨n, (a_impl_BytesToInts n a0).trans (hn n (Nat.le_refl n) (fun  m v0_0 v0_1 v0_2 v0_3 => L_impl_BytesToInts_0 n  m (S_impl_BytesToInts_0 v0_0 v0_1 v0_2 v0_3)) (fun  m v0_0 v0_1 v0_2 v0_3 => b_impl_BytesToInts_0 n  m v0_0 v0_1 v0_2 v0_3))⟩)
/-! impl.LabelInts -/
abbrev G.impl_LabelInts (s : ByteArray) : Bool := decide (s.size ≤ 1048576)
abbrev N.impl_LabelInts (s : ByteArray) : List Int := labelInts s
def impl_LabelInts {ρ : Type} (k : (List Int) → Option ρ) (a0 : ByteArray) : Option ρ := (cond (decide ((ByteArray.size a0 : Int) ≤ 549755813888)) (cond (G.impl_BytesToInts (bytesOf a0)) (k (N.impl_BytesToInts (bytesOf a0))) none) none)
theorem impl_LabelInts_ok {ρ : Type} (k : (List Int) → Option ρ) (a0 : ByteArray) (g : G.impl_LabelInts a0 = true) : impl_LabelInts k  a0 = k (N.impl_LabelInts a0) := by
  unfold G.impl_LabelInts at g
  have h : a0.size ≤ 1048576 := of_decide_eq_true g
  have h1 : decide ((a0.size : Int) ≤ 549755813888) = true := by simp; omega
  have h2 : G.impl_BytesToInts (bytesOf a0) = true := decide_eq_true (by rw [bytesOf_length]; omega)
  show cond _ (cond _ _ none) none = _
  rw [h1, h2]
  rfl
def OP_impl_LabelInts (f_impl_BytesToInts : (List Int) → (List Int)) (g_impl_BytesToInts : (List Int) → Bool) : Orac := (orcX 120 [.val (.slice 5 (.int .u8))] (fun d => g_impl_BytesToInts d.1) (fun d => [⟨(.slice 3 (.int .i64)), f_impl_BytesToInts d.1⟩]) nilO)
def O_impl_LabelInts : Orac := OP_impl_LabelInts N.impl_BytesToInts G.impl_BytesToInts
def impl_LabelInts_P {ρ : Type} (f_impl_BytesToInts : (List Int) → (List Int)) (g_impl_BytesToInts : (List Int) → Bool) (k : (List Int) → Option ρ) (a0 : ByteArray) : Option ρ := (cond (decide ((ByteArray.size a0 : Int) ≤ 549755813888)) (cond (g_impl_BytesToInts (bytesOf a0)) (k (f_impl_BytesToInts (bytesOf a0))) none) none)
theorem ok_impl_LabelInts : OracOk Try.prog sigs O_impl_LabelInts := (orcX_ok rfl rfl (fun d g => said_impl_BytesToInts d.1 g) nilO_ok)
def A_impl_LabelInts : Ann := fun b => ⟨[], []⟩
theorem aP_impl_LabelInts (f_impl_BytesToInts : (List Int) → (List Int)) (g_impl_BytesToInts : (List Int) → Bool) (n : Nat) (a0 : ByteArray) : absF tab sigs (OP_impl_LabelInts f_impl_BytesToInts g_impl_BytesToInts) A_impl_LabelInts Try.f111 [((.slice 3 (.int .i64)), (.own 0))] n [.val .str a0] = impl_LabelInts_P f_impl_BytesToInts g_impl_BytesToInts (fun r0 => some [⟨(.slice 3 (.int .i64)), r0⟩])  a0 := by kernel_rfl
theorem a_impl_LabelInts (n : Nat) (a0 : ByteArray) : absF tab sigs O_impl_LabelInts A_impl_LabelInts Try.f111 [((.slice 3 (.int .i64)), (.own 0))] n [.val .str a0] = impl_LabelInts (fun r0 => some [⟨(.slice 3 (.int .i64)), r0⟩])  a0 := aP_impl_LabelInts N.impl_BytesToInts G.impl_BytesToInts n a0
theorem said_impl_LabelInts (a0 : ByteArray) (g : G.impl_LabelInts a0 = true) : Said Try.prog sigs_111 111 [.val .str a0] [⟨(.slice 3 (.int .i64)), N.impl_LabelInts a0⟩] := said_len (T := tab) (A := A_impl_LabelInts) tabOk ok_impl_LabelInts tabOk.follows Try.func111 (by kernel_rfl) (by kernel_rfl) (fun hl => ⟨0, (a_impl_LabelInts 0 a0).trans (impl_LabelInts_ok (ρ := Ret) (fun r0 => some [⟨(.slice 3 (.int .i64)), r0⟩]) a0 g)⟩)
/-! impl.EntryInts -/
abbrev G.impl_EntryInts (e : TEntry) : Bool := decide (wE e ≤ 1048576)
abbrev N.impl_EntryInts (e : TEntry) : List Int := entryInts e
def impl_EntryInts_L0 {ρ : Type} (k : (List Int) → Option ρ) (L0 : (List ByteArray) → Int → Int → (List Int) → Option ρ) (v0_0 : (List ByteArray)) (v0_1 : Int) (v0_2 : Int) (v0_3 : (List Int)) : Option ρ := (cond (decide (v0_2 < v0_1)) (cond (inRange v0_2 (List.length v0_0)) (cond (G.impl_LabelInts (List.getD v0_0 (Int.toNat v0_2) ByteArray.empty)) (cond (fit (List.length v0_3) (List.length (N.impl_LabelInts (List.getD v0_0 (Int.toNat v0_2) ByteArray.empty)))) (L0 v0_0 v0_1 (IntKind.wrap .i64 (v0_2 + (1 : Int))) (List.append v0_3 (N.impl_LabelInts (List.getD v0_0 (Int.toNat v0_2) ByteArray.empty)))) none) none) none) (k v0_3))
def impl_EntryInts {ρ : Type} (k : (List Int) → Option ρ) (L0 : (List ByteArray) → Int → Int → (List Int) → Option ρ) (a0 : TEntry) : Option ρ := (cond (G.impl_LabelInts a0.1) (cond (fit (List.length (N.impl_LabelInts a0.1)) (List.length [a0.2.1, a0.2.2.1, (List.length a0.2.2.2 : Int)])) (L0 a0.2.2.2 (List.length a0.2.2.2 : Int) (0 : Int) (List.append (N.impl_LabelInts a0.1) [a0.2.1, a0.2.2.1, (List.length a0.2.2.2 : Int)])) none) none)
theorem impl_EntryInts_ok {ρ : Type} (k : (List Int) → Option ρ) (a0 : TEntry) (l_a0 : (True ∧ (True ∧ (True ∧ lnL (fun _ => True) a0.2.2.2)))) (g : G.impl_EntryInts a0 = true) : ∃ n0, ∀ n, n0 ≤ n → ∀ (L0 : Nat → (List ByteArray) → Int → Int → (List Int) → Option ρ) (h0 : ∀ ( m : Nat) (v0_0 : (List ByteArray)) (v0_1 : Int) (v0_2 : Int) (v0_3 : (List Int)), L0 (m + 1) v0_0 v0_1 v0_2 v0_3 = impl_EntryInts_L0 k (L0 m) v0_0 v0_1 v0_2 v0_3), impl_EntryInts k (L0 n) a0 = k (N.impl_EntryInts a0) := by
  unfold G.impl_EntryInts at g
  have hw : wE a0 ≤ 1048576 := of_decide_eq_true g
  have hw2 : a0.1.size + (a0.2.2.2.length + wsum ByteArray.size a0.2.2.2) ≤ 1048576 := hw
  have g1 : decide (a0.1.size ≤ 1048576) = true := by simp; omega
  have f1 : fit (labelInts a0.1).length 3 = true := fit_of (by rw [labelInts_len]; omega)
  refine ⟨a0.2.2.2.length + 1, fun n hn L0 h0 => ?_⟩
  show cond (decide (a0.1.size ≤ 1048576)) (cond (fit (labelInts a0.1).length 3) (L0 n a0.2.2.2 (a0.2.2.2.length : Int) 0 (labelInts a0.1 ++ [a0.2.1, a0.2.2.1, (a0.2.2.2.length : Int)])) none) none = k (entryInts a0)
  rw [g1, f1]
  have key := raw_run0 (σ := List Int) (L := fun m i s => L0 m a0.2.2.2 (a0.2.2.2.length : Int) i s) (R := fun i s c => impl_EntryInts_L0 k (fun _ _ i s => c i s) a0.2.2.2 (a0.2.2.2.length : Int) i s) (fun m i s => h0 m a0.2.2.2 (a0.2.2.2.length : Int) i s) a0.2.2.2.length (fun j s => s.length + wP (a0.2.2.2.drop j) ≤ 4194304) (fun j s => k (s ++ (a0.2.2.2.drop j).flatMap labelInts)) (fun j s c hj hI hc => ?_) (fun s c _ => ?_) hn (s := labelInts a0.1 ++ [a0.2.1, a0.2.2.1, (a0.2.2.2.length : Int)]) (by rw [List.drop_zero, List.length_append, labelInts_len]; unfold wP; simp; omega)
  · rw [List.drop_zero] at key
    exact key
  · have hd := drop_cons ByteArray.empty hj
    have hp : wP (a0.2.2.2.drop j) = 1 + (a0.2.2.2.getD j ByteArray.empty).size + wP (a0.2.2.2.drop (j + 1)) := by
      rw [hd]
      unfold wP
      rw [List.length_cons]
      show _ + (_ + _) = _
      omega
    have hm := wsum_mem (wt := ByteArray.size) (getD_mem (d := ByteArray.empty) hj)
    have g2 : decide ((a0.2.2.2.getD j ByteArray.empty).size ≤ 1048576) = true := by simp only [decide_eq_true_eq]; omega
    have e3 : fit s.length (labelInts (a0.2.2.2.getD j ByteArray.empty)).length = true := fit_of (by rw [labelInts_len]; omega)
    have := hc (s ++ labelInts (a0.2.2.2.getD j ByteArray.empty)) (by rw [List.length_append, labelInts_len]; omega)
    simp only [impl_EntryInts_L0, lt_nat, inRange_nat, decide_eq_true hj, cond_true, Int.toNat_natCast, G.impl_LabelInts, N.impl_LabelInts, g2, e3, wrap_succ (j := j) (by unfold big; omega), List.append_eq, this]
    rw [hd]
    simp
  · simp [impl_EntryInts_L0]
def OP_impl_EntryInts (f_impl_LabelInts : ByteArray → (List Int)) (g_impl_LabelInts : ByteArray → Bool) : Orac := (orcX 111 [.val .str] (fun d => g_impl_LabelInts d.1) (fun d => [⟨(.slice 3 (.int .i64)), f_impl_LabelInts d.1⟩]) nilO)
def O_impl_EntryInts : Orac := OP_impl_EntryInts N.impl_LabelInts G.impl_LabelInts
def impl_EntryInts_P_L0 {ρ : Type} (f_impl_LabelInts : ByteArray → (List Int)) (g_impl_LabelInts : ByteArray → Bool) (k : (List Int) → Option ρ) (L0 : (List ByteArray) → Int → Int → (List Int) → Option ρ) (v0_0 : (List ByteArray)) (v0_1 : Int) (v0_2 : Int) (v0_3 : (List Int)) : Option ρ := (cond (decide (v0_2 < v0_1)) (cond (inRange v0_2 (List.length v0_0)) (cond (g_impl_LabelInts (List.getD v0_0 (Int.toNat v0_2) ByteArray.empty)) (cond (fit (List.length v0_3) (List.length (f_impl_LabelInts (List.getD v0_0 (Int.toNat v0_2) ByteArray.empty)))) (L0 v0_0 v0_1 (IntKind.wrap .i64 (v0_2 + (1 : Int))) (List.append v0_3 (f_impl_LabelInts (List.getD v0_0 (Int.toNat v0_2) ByteArray.empty)))) none) none) none) (k v0_3))
def impl_EntryInts_P {ρ : Type} (f_impl_LabelInts : ByteArray → (List Int)) (g_impl_LabelInts : ByteArray → Bool) (k : (List Int) → Option ρ) (L0 : (List ByteArray) → Int → Int → (List Int) → Option ρ) (a0 : TEntry) : Option ρ := (cond (g_impl_LabelInts a0.1) (cond (fit (List.length (f_impl_LabelInts a0.1)) (List.length [a0.2.1, a0.2.2.1, (List.length a0.2.2.2 : Int)])) (L0 a0.2.2.2 (List.length a0.2.2.2 : Int) (0 : Int) (List.append (f_impl_LabelInts a0.1) [a0.2.1, a0.2.2.1, (List.length a0.2.2.2 : Int)])) none) none)
theorem ok_impl_EntryInts : OracOk Try.prog sigs O_impl_EntryInts := (orcX_ok rfl rfl (fun d g => said_impl_LabelInts d.1 g) nilO_ok)
def A_impl_EntryInts : Ann := fun b => cond (Nat.beq b 0) ⟨[(3, true), (19, false), (20, false), (21, false)], []⟩ (⟨[], []⟩)
def S_impl_EntryInts_0 (v0_0 : (List ByteArray)) (v0_1 : Int) (v0_2 : Int) (v0_3 : (List Int)) : St := [(kT 3, some (.tv (.v (.slice 3 (.int .i64)) [] (.own 24)))), (kT 19, some (.tv (.v (.slice 9 .str) v0_0 .no))), (kT 20, some (.tv (.v (.int .i64) v0_1 .no))), (kT 21, some (.tv (.v (.int .i64) v0_2 .no))), (kR 24, some (.row 3 (.int .i64) v0_3))]
noncomputable def L_P_impl_EntryInts_0 (f_impl_LabelInts : ByteArray → (List Int)) (g_impl_LabelInts : ByteArray → Bool) (n m : Nat) : St → Option Ret := loopOf tab sigs (OP_impl_EntryInts f_impl_LabelInts g_impl_LabelInts) A_impl_EntryInts Try.f91 [((.slice 3 (.int .i64)), (.own 0))] n (fun _ => 0) 0 m
noncomputable def L_impl_EntryInts_0 (n m : Nat) : St → Option Ret := L_P_impl_EntryInts_0 N.impl_LabelInts G.impl_LabelInts n m
theorem bP_impl_EntryInts_0 (f_impl_LabelInts : ByteArray → (List Int)) (g_impl_LabelInts : ByteArray → Bool) (n m : Nat) (v0_0 : (List ByteArray)) (v0_1 : Int) (v0_2 : Int) (v0_3 : (List Int)) : L_P_impl_EntryInts_0 f_impl_LabelInts g_impl_LabelInts n (m + 1) (S_impl_EntryInts_0 v0_0 v0_1 v0_2 v0_3) = impl_EntryInts_P_L0 f_impl_LabelInts g_impl_LabelInts (fun r0 => some [⟨(.slice 3 (.int .i64)), r0⟩]) (fun v0_0 v0_1 v0_2 v0_3 => L_P_impl_EntryInts_0 f_impl_LabelInts g_impl_LabelInts n m (S_impl_EntryInts_0 v0_0 v0_1 v0_2 v0_3)) v0_0 v0_1 v0_2 v0_3 := by kernel_rfl
theorem b_impl_EntryInts_0 (n m : Nat) (v0_0 : (List ByteArray)) (v0_1 : Int) (v0_2 : Int) (v0_3 : (List Int)) : L_impl_EntryInts_0 n (m + 1) (S_impl_EntryInts_0 v0_0 v0_1 v0_2 v0_3) = impl_EntryInts_L0 (fun r0 => some [⟨(.slice 3 (.int .i64)), r0⟩]) (fun v0_0 v0_1 v0_2 v0_3 => L_impl_EntryInts_0 n m (S_impl_EntryInts_0 v0_0 v0_1 v0_2 v0_3)) v0_0 v0_1 v0_2 v0_3 := bP_impl_EntryInts_0 N.impl_LabelInts G.impl_LabelInts n m v0_0 v0_1 v0_2 v0_3
theorem aP_impl_EntryInts (f_impl_LabelInts : ByteArray → (List Int)) (g_impl_LabelInts : ByteArray → Bool) (n : Nat) (a0 : TEntry) : absF tab sigs (OP_impl_EntryInts f_impl_LabelInts g_impl_LabelInts) A_impl_EntryInts Try.f91 [((.slice 3 (.int .i64)), (.own 0))] n [.val TyEntry a0] = impl_EntryInts_P f_impl_LabelInts g_impl_LabelInts (fun r0 => some [⟨(.slice 3 (.int .i64)), r0⟩]) (fun v0_0 v0_1 v0_2 v0_3 => L_P_impl_EntryInts_0 f_impl_LabelInts g_impl_LabelInts n n (S_impl_EntryInts_0 v0_0 v0_1 v0_2 v0_3)) a0 := by kernel_rfl
theorem a_impl_EntryInts (n : Nat) (a0 : TEntry) : absF tab sigs O_impl_EntryInts A_impl_EntryInts Try.f91 [((.slice 3 (.int .i64)), (.own 0))] n [.val TyEntry a0] = impl_EntryInts (fun r0 => some [⟨(.slice 3 (.int .i64)), r0⟩]) (fun v0_0 v0_1 v0_2 v0_3 => L_impl_EntryInts_0 n n (S_impl_EntryInts_0 v0_0 v0_1 v0_2 v0_3)) a0 := aP_impl_EntryInts N.impl_LabelInts G.impl_LabelInts n a0
theorem said_impl_EntryInts (a0 : TEntry) (g : G.impl_EntryInts a0 = true) : Said Try.prog sigs_91 91 [.val TyEntry a0] [⟨(.slice 3 (.int .i64)), N.impl_EntryInts a0⟩] := said_len (T := tab) (A := A_impl_EntryInts) tabOk ok_impl_EntryInts tabOk.follows Try.func91 (by kernel_rfl) (by kernel_rfl) (fun hl => let ⟨n, hn⟩ := impl_EntryInts_ok (ρ := Ret) (fun r0 => some [⟨(.slice 3 (.int .i64)), r0⟩]) a0 hl.1 g; ⟨n, (a_impl_EntryInts n a0).trans (hn n (Nat.le_refl n) (fun  m v0_0 v0_1 v0_2 v0_3 => L_impl_EntryInts_0 n  m (S_impl_EntryInts_0 v0_0 v0_1 v0_2 v0_3)) (fun  m v0_0 v0_1 v0_2 v0_3 => b_impl_EntryInts_0 n  m v0_0 v0_1 v0_2 v0_3))⟩)
/-! impl.Mod -/
abbrev N.impl_Mod (n m : Int) : Int := modM n m
def impl_Mod {ρ : Type} (k : Int → Option ρ) (a0 : Int) (a1 : Int) : Option ρ := (cond (!(N.impl_InRange a1 (1 : Int) (1000000000000 : Int))) (k (0 : Int)) (cond (!(decide (a1 = 0))) (cond (!(decide (a1 = 0))) (k (Int.tmod (IntKind.wrap .i64 ((Int.tmod a0 a1) + a1)) a1)) none) none))
theorem impl_Mod_ok {ρ : Type} (k : Int → Option ρ) (a0 : Int) (a1 : Int) : impl_Mod k  a0 a1 = k (N.impl_Mod a0 a1) := by
  simp only [impl_Mod, N.impl_InRange, modM]
  cases h : inR a1 1 1000000000000
  · rfl
  · have h1 : 1 ≤ a1 := by
      unfold inR at h
      simp only [Bool.and_eq_true, decide_eq_true_eq] at h
      exact h.1
    have h2 : decide (a1 = 0) = false := by simp; omega
    simp [h2]
def OP_impl_Mod (f_impl_InRange : Int → Int → Int → Bool) : Orac := (orcX 72 [.val (.int .i64), .val (.int .i64), .val (.int .i64)] (fun d => true) (fun d => [⟨.bool, f_impl_InRange d.1 d.2.1 d.2.2.1⟩]) nilO)
def O_impl_Mod : Orac := OP_impl_Mod N.impl_InRange
def impl_Mod_P {ρ : Type} (f_impl_InRange : Int → Int → Int → Bool) (k : Int → Option ρ) (a0 : Int) (a1 : Int) : Option ρ := (cond (!(f_impl_InRange a1 (1 : Int) (1000000000000 : Int))) (k (0 : Int)) (cond (!(decide (a1 = 0))) (cond (!(decide (a1 = 0))) (k (Int.tmod (IntKind.wrap .i64 ((Int.tmod a0 a1) + a1)) a1)) none) none))
theorem ok_impl_Mod : OracOk Try.prog sigs O_impl_Mod := (orcX_ok rfl rfl (fun d g => said_impl_InRange d.1 d.2.1 d.2.2.1) nilO_ok)
def A_impl_Mod : Ann := fun b => ⟨[], []⟩
theorem aP_impl_Mod (f_impl_InRange : Int → Int → Int → Bool) (n : Nat) (a0 : Int) (a1 : Int) : absF tab sigs (OP_impl_Mod f_impl_InRange) A_impl_Mod Try.f110 [((.int .i64), .no)] n [.val (.int .i64) a0, .val (.int .i64) a1] = impl_Mod_P f_impl_InRange (fun r0 => some [⟨(.int .i64), r0⟩])  a0 a1 := by kernel_rfl
theorem a_impl_Mod (n : Nat) (a0 : Int) (a1 : Int) : absF tab sigs O_impl_Mod A_impl_Mod Try.f110 [((.int .i64), .no)] n [.val (.int .i64) a0, .val (.int .i64) a1] = impl_Mod (fun r0 => some [⟨(.int .i64), r0⟩])  a0 a1 := aP_impl_Mod N.impl_InRange n a0 a1
theorem said_impl_Mod (a0 : Int) (a1 : Int) : Said Try.prog sigs_110 110 [.val (.int .i64) a0, .val (.int .i64) a1] [⟨(.int .i64), N.impl_Mod a0 a1⟩] := said_len (T := tab) (A := A_impl_Mod) tabOk ok_impl_Mod tabOk.follows Try.func110 (by kernel_rfl) (by kernel_rfl) (fun hl => ⟨0, (a_impl_Mod 0 a0 a1).trans (impl_Mod_ok (ρ := Ret) (fun r0 => some [⟨(.int .i64), r0⟩]) a0 a1)⟩)
/-! impl.Hash -/
abbrev N.impl_Hash (l : List Int) : Int := hash l
def impl_Hash_L0 {ρ : Type} (k : Int → Option ρ) (L0 : Int → (List Int) → Int → Int → Option ρ) (v0_0 : Int) (v0_1 : (List Int)) (v0_2 : Int) (v0_3 : Int) : Option ρ := (cond (decide (v0_3 < v0_2)) (cond (inRange v0_3 (List.length v0_1)) (L0 (Int.tmod (IntKind.wrap .i64 ((IntKind.wrap .i64 ((IntKind.wrap .i64 (v0_0 * (1000003 : Int))) + (N.impl_Mod (List.getD v0_1 (Int.toNat v0_3) (0 : Int)) (2147483647 : Int)))) + (13 : Int))) (2147483647 : Int)) v0_1 v0_2 (IntKind.wrap .i64 (v0_3 + (1 : Int)))) none) (k v0_0))
def impl_Hash {ρ : Type} (k : Int → Option ρ) (L0 : Int → (List Int) → Int → Int → Option ρ) (a0 : (List Int)) : Option ρ := (L0 (11 : Int) a0 (List.length a0 : Int) (0 : Int))
theorem impl_Hash_ok {ρ : Type} (k : Int → Option ρ) (a0 : (List Int)) (l_a0 : lnL (fun _ => True) a0) : ∃ n0, ∀ n, n0 ≤ n → ∀ (L0 : Nat → Int → (List Int) → Int → Int → Option ρ) (h0 : ∀ ( m : Nat) (v0_0 : Int) (v0_1 : (List Int)) (v0_2 : Int) (v0_3 : Int), L0 (m + 1) v0_0 v0_1 v0_2 v0_3 = impl_Hash_L0 k (L0 m) v0_0 v0_1 v0_2 v0_3), impl_Hash k (L0 n) a0 = k (N.impl_Hash a0) := by
  refine ⟨a0.length + 1, fun n hn L0 h0 => ?_⟩
  refine raw_foldl (a := a0) 0 hashStep (k := k) (L := fun m i s => L0 m s a0 (a0.length : Int) i) (R := fun i s c => impl_Hash_L0 k (fun s _ _ i => c i s) s a0 (a0.length : Int) i) (fun m i s => h0 m s a0 (a0.length : Int) i) (fun _ _ => True) (fun j s c hj _ => ?_) (fun _ _ _ _ => trivial) (fun s c => ?_) hn trivial
  · have : j < big := by have := l_a0.1; omega
    simp [impl_Hash_L0, lt_nat, inRange_nat, hj, wrap_succ this, hashStep]
  · simp [impl_Hash_L0]
def OP_impl_Hash (f_impl_Mod : Int → Int → Int) : Orac := (orcX 110 [.val (.int .i64), .val (.int .i64)] (fun d => true) (fun d => [⟨(.int .i64), f_impl_Mod d.1 d.2.1⟩]) nilO)
def O_impl_Hash : Orac := OP_impl_Hash N.impl_Mod
def impl_Hash_P_L0 {ρ : Type} (f_impl_Mod : Int → Int → Int) (k : Int → Option ρ) (L0 : Int → (List Int) → Int → Int → Option ρ) (v0_0 : Int) (v0_1 : (List Int)) (v0_2 : Int) (v0_3 : Int) : Option ρ := (cond (decide (v0_3 < v0_2)) (cond (inRange v0_3 (List.length v0_1)) (L0 (Int.tmod (IntKind.wrap .i64 ((IntKind.wrap .i64 ((IntKind.wrap .i64 (v0_0 * (1000003 : Int))) + (f_impl_Mod (List.getD v0_1 (Int.toNat v0_3) (0 : Int)) (2147483647 : Int)))) + (13 : Int))) (2147483647 : Int)) v0_1 v0_2 (IntKind.wrap .i64 (v0_3 + (1 : Int)))) none) (k v0_0))
def impl_Hash_P {ρ : Type} (f_impl_Mod : Int → Int → Int) (k : Int → Option ρ) (L0 : Int → (List Int) → Int → Int → Option ρ) (a0 : (List Int)) : Option ρ := (L0 (11 : Int) a0 (List.length a0 : Int) (0 : Int))
theorem ok_impl_Hash : OracOk Try.prog sigs O_impl_Hash := (orcX_ok rfl rfl (fun d g => said_impl_Mod d.1 d.2.1) nilO_ok)
def A_impl_Hash : Ann := fun b => cond (Nat.beq b 0) ⟨[(3, false), (6, false), (7, false), (8, false)], []⟩ (⟨[], []⟩)
def S_impl_Hash_0 (v0_0 : Int) (v0_1 : (List Int)) (v0_2 : Int) (v0_3 : Int) : St := [(kT 3, some (.tv (.v (.int .i64) v0_0 .no))), (kT 6, some (.tv (.v (.slice 3 (.int .i64)) v0_1 .no))), (kT 7, some (.tv (.v (.int .i64) v0_2 .no))), (kT 8, some (.tv (.v (.int .i64) v0_3 .no)))]
noncomputable def L_P_impl_Hash_0 (f_impl_Mod : Int → Int → Int) (n m : Nat) : St → Option Ret := loopOf tab sigs (OP_impl_Hash f_impl_Mod) A_impl_Hash Try.f90 [((.int .i64), .no)] n (fun _ => 0) 0 m
noncomputable def L_impl_Hash_0 (n m : Nat) : St → Option Ret := L_P_impl_Hash_0 N.impl_Mod n m
theorem bP_impl_Hash_0 (f_impl_Mod : Int → Int → Int) (n m : Nat) (v0_0 : Int) (v0_1 : (List Int)) (v0_2 : Int) (v0_3 : Int) : L_P_impl_Hash_0 f_impl_Mod n (m + 1) (S_impl_Hash_0 v0_0 v0_1 v0_2 v0_3) = impl_Hash_P_L0 f_impl_Mod (fun r0 => some [⟨(.int .i64), r0⟩]) (fun v0_0 v0_1 v0_2 v0_3 => L_P_impl_Hash_0 f_impl_Mod n m (S_impl_Hash_0 v0_0 v0_1 v0_2 v0_3)) v0_0 v0_1 v0_2 v0_3 := by kernel_rfl
theorem b_impl_Hash_0 (n m : Nat) (v0_0 : Int) (v0_1 : (List Int)) (v0_2 : Int) (v0_3 : Int) : L_impl_Hash_0 n (m + 1) (S_impl_Hash_0 v0_0 v0_1 v0_2 v0_3) = impl_Hash_L0 (fun r0 => some [⟨(.int .i64), r0⟩]) (fun v0_0 v0_1 v0_2 v0_3 => L_impl_Hash_0 n m (S_impl_Hash_0 v0_0 v0_1 v0_2 v0_3)) v0_0 v0_1 v0_2 v0_3 := bP_impl_Hash_0 N.impl_Mod n m v0_0 v0_1 v0_2 v0_3
theorem aP_impl_Hash (f_impl_Mod : Int → Int → Int) (n : Nat) (a0 : (List Int)) : absF tab sigs (OP_impl_Hash f_impl_Mod) A_impl_Hash Try.f90 [((.int .i64), .no)] n [.val (.slice 3 (.int .i64)) a0] = impl_Hash_P f_impl_Mod (fun r0 => some [⟨(.int .i64), r0⟩]) (fun v0_0 v0_1 v0_2 v0_3 => L_P_impl_Hash_0 f_impl_Mod n n (S_impl_Hash_0 v0_0 v0_1 v0_2 v0_3)) a0 := by kernel_rfl
theorem a_impl_Hash (n : Nat) (a0 : (List Int)) : absF tab sigs O_impl_Hash A_impl_Hash Try.f90 [((.int .i64), .no)] n [.val (.slice 3 (.int .i64)) a0] = impl_Hash (fun r0 => some [⟨(.int .i64), r0⟩]) (fun v0_0 v0_1 v0_2 v0_3 => L_impl_Hash_0 n n (S_impl_Hash_0 v0_0 v0_1 v0_2 v0_3)) a0 := aP_impl_Hash N.impl_Mod n a0
theorem said_impl_Hash (a0 : (List Int)) : Said Try.prog sigs_90 90 [.val (.slice 3 (.int .i64)) a0] [⟨(.int .i64), N.impl_Hash a0⟩] := said_len (T := tab) (A := A_impl_Hash) tabOk ok_impl_Hash tabOk.follows Try.func90 (by kernel_rfl) (by kernel_rfl) (fun hl => let ⟨n, hn⟩ := impl_Hash_ok (ρ := Ret) (fun r0 => some [⟨(.int .i64), r0⟩]) a0 hl.1; ⟨n, (a_impl_Hash n a0).trans (hn n (Nat.le_refl n) (fun  m v0_0 v0_1 v0_2 v0_3 => L_impl_Hash_0 n  m (S_impl_Hash_0 v0_0 v0_1 v0_2 v0_3)) (fun  m v0_0 v0_1 v0_2 v0_3 => b_impl_Hash_0 n  m v0_0 v0_1 v0_2 v0_3))⟩)
/-! impl.LeafOf -/
abbrev G.impl_LeafOf (e : TEntry) : Bool := decide (wE e ≤ 1048576)
abbrev N.impl_LeafOf (e : TEntry) : Int := leafOf e
def impl_LeafOf {ρ : Type} (k : Int → Option ρ) (a0 : TEntry) : Option ρ := (cond (G.impl_EntryInts a0) (cond (fit (List.length [(227 : Int)]) (List.length (N.impl_EntryInts a0))) (k (N.impl_Hash (List.append [(227 : Int)] (N.impl_EntryInts a0)))) none) none)
theorem impl_LeafOf_ok {ρ : Type} (k : Int → Option ρ) (a0 : TEntry) (l_a0 : (True ∧ (True ∧ (True ∧ lnL (fun _ => True) a0.2.2.2)))) (g : G.impl_LeafOf a0 = true) : impl_LeafOf k  a0 = k (N.impl_LeafOf a0) := by
  unfold G.impl_LeafOf at g
  have hw : wE a0 ≤ 1048576 := of_decide_eq_true g
  have f1 : fit 1 (entryInts a0).length = true := fit_of (by rw [entryInts_len]; omega)
  show cond (decide (wE a0 ≤ 1048576)) (cond (fit 1 (entryInts a0).length) _ none) none = _
  rw [g, f1]
  rfl
def OP_impl_LeafOf (f_impl_EntryInts : TEntry → (List Int)) (g_impl_EntryInts : TEntry → Bool) (f_impl_Hash : (List Int) → Int) : Orac := (orcX 90 [.val (.slice 3 (.int .i64))] (fun d => true) (fun d => [⟨(.int .i64), f_impl_Hash d.1⟩]) (orcX 91 [.val TyEntry] (fun d => g_impl_EntryInts d.1) (fun d => [⟨(.slice 3 (.int .i64)), f_impl_EntryInts d.1⟩]) nilO))
def O_impl_LeafOf : Orac := OP_impl_LeafOf N.impl_EntryInts G.impl_EntryInts N.impl_Hash
def impl_LeafOf_P {ρ : Type} (f_impl_EntryInts : TEntry → (List Int)) (g_impl_EntryInts : TEntry → Bool) (f_impl_Hash : (List Int) → Int) (k : Int → Option ρ) (a0 : TEntry) : Option ρ := (cond (g_impl_EntryInts a0) (cond (fit (List.length [(227 : Int)]) (List.length (f_impl_EntryInts a0))) (k (f_impl_Hash (List.append [(227 : Int)] (f_impl_EntryInts a0)))) none) none)
theorem ok_impl_LeafOf : OracOk Try.prog sigs O_impl_LeafOf := (orcX_ok rfl rfl (fun d g => said_impl_Hash d.1) (orcX_ok rfl rfl (fun d g => said_impl_EntryInts d.1 g) nilO_ok))
def A_impl_LeafOf : Ann := fun b => ⟨[], []⟩
theorem aP_impl_LeafOf (f_impl_EntryInts : TEntry → (List Int)) (g_impl_EntryInts : TEntry → Bool) (f_impl_Hash : (List Int) → Int) (n : Nat) (a0 : TEntry) : absF tab sigs (OP_impl_LeafOf f_impl_EntryInts g_impl_EntryInts f_impl_Hash) A_impl_LeafOf Try.f48 [((.int .i64), .no)] n [.val TyEntry a0] = impl_LeafOf_P f_impl_EntryInts g_impl_EntryInts f_impl_Hash (fun r0 => some [⟨(.int .i64), r0⟩])  a0 := by kernel_rfl
theorem a_impl_LeafOf (n : Nat) (a0 : TEntry) : absF tab sigs O_impl_LeafOf A_impl_LeafOf Try.f48 [((.int .i64), .no)] n [.val TyEntry a0] = impl_LeafOf (fun r0 => some [⟨(.int .i64), r0⟩])  a0 := aP_impl_LeafOf N.impl_EntryInts G.impl_EntryInts N.impl_Hash n a0
theorem said_impl_LeafOf (a0 : TEntry) (g : G.impl_LeafOf a0 = true) : Said Try.prog sigs_48 48 [.val TyEntry a0] [⟨(.int .i64), N.impl_LeafOf a0⟩] := said_len (T := tab) (A := A_impl_LeafOf) tabOk ok_impl_LeafOf tabOk.follows Try.func48 (by kernel_rfl) (by kernel_rfl) (fun hl => ⟨0, (a_impl_LeafOf 0 a0).trans (impl_LeafOf_ok (ρ := Ret) (fun r0 => some [⟨(.int .i64), r0⟩]) a0 hl.1 g)⟩)
/-! impl.LeavesOf -/
abbrev G.impl_LeavesOf (l : List TEntry) : Bool := decide (wEs l ≤ 1048576)
abbrev N.impl_LeavesOf (l : List TEntry) : List Int := l.map leafOf
def impl_LeavesOf_L0 {ρ : Type} (k : (List Int) → Option ρ) (L0 : (List TEntry) → Int → Int → (List Int) → Option ρ) (v0_0 : (List TEntry)) (v0_1 : Int) (v0_2 : Int) (v0_3 : (List Int)) : Option ρ := (cond (decide (v0_2 < v0_1)) (cond (inRange v0_2 (List.length v0_0)) (cond (G.impl_LeafOf (List.getD v0_0 (Int.toNat v0_2) (ByteArray.empty, ((0 : Int), ((0 : Int), []))))) (cond (fit (List.length v0_3) (List.length [(N.impl_LeafOf (List.getD v0_0 (Int.toNat v0_2) (ByteArray.empty, ((0 : Int), ((0 : Int), [])))))])) (L0 v0_0 v0_1 (IntKind.wrap .i64 (v0_2 + (1 : Int))) (List.append v0_3 [(N.impl_LeafOf (List.getD v0_0 (Int.toNat v0_2) (ByteArray.empty, ((0 : Int), ((0 : Int), [])))))])) none) none) none) (k v0_3))
def impl_LeavesOf {ρ : Type} (k : (List Int) → Option ρ) (L0 : (List TEntry) → Int → Int → (List Int) → Option ρ) (a0 : (List TEntry)) : Option ρ := (L0 a0 (List.length a0 : Int) (0 : Int) ([] : (List Int)))
theorem impl_LeavesOf_ok {ρ : Type} (k : (List Int) → Option ρ) (a0 : (List TEntry)) (l_a0 : lnL (fun y => (True ∧ (True ∧ (True ∧ lnL (fun _ => True) y.2.2.2)))) a0) (g : G.impl_LeavesOf a0 = true) : ∃ n0, ∀ n, n0 ≤ n → ∀ (L0 : Nat → (List TEntry) → Int → Int → (List Int) → Option ρ) (h0 : ∀ ( m : Nat) (v0_0 : (List TEntry)) (v0_1 : Int) (v0_2 : Int) (v0_3 : (List Int)), L0 (m + 1) v0_0 v0_1 v0_2 v0_3 = impl_LeavesOf_L0 k (L0 m) v0_0 v0_1 v0_2 v0_3), impl_LeavesOf k (L0 n) a0 = k (N.impl_LeavesOf a0) := by
  unfold G.impl_LeavesOf at g
  have hw : wEs a0 ≤ 1048576 := of_decide_eq_true g
  have hl : a0.length ≤ 1048576 := by unfold wEs at hw; omega
  refine ⟨a0.length + 1, fun n hn L0 h0 => ?_⟩
  refine raw_map (a := a0) (ByteArray.empty, (0, (0, []))) leafOf 1048576 (k := k) (L := fun m i out => L0 m a0 (a0.length : Int) i out) (R := fun i out c => impl_LeavesOf_L0 k (fun _ _ i out => c i out) a0 (a0.length : Int) i out) (fun m i s => h0 m a0 (a0.length : Int) i s) (fun j out c hj ho => ?_) (fun out c => ?_) hl hn
  · have hm := wEs_mem (getD_mem (d := (ByteArray.empty, (0, (0, [])))) hj)
    have g2 : decide (wE (a0.getD j (ByteArray.empty, (0, (0, [])))) ≤ 1048576) = true := by simp only [decide_eq_true_eq]; omega
    have e3 : fit out.length 1 = true := fit_of (by omega)
    simp only [impl_LeavesOf_L0, lt_nat, inRange_nat, decide_eq_true hj, cond_true, Int.toNat_natCast, G.impl_LeafOf, g2, List.length_singleton, e3, wrap_succ (j := j) (by unfold big; omega), List.append_eq]
  · simp [impl_LeavesOf_L0]
def OP_impl_LeavesOf (f_impl_LeafOf : TEntry → Int) (g_impl_LeafOf : TEntry → Bool) : Orac := (orcX 48 [.val TyEntry] (fun d => g_impl_LeafOf d.1) (fun d => [⟨(.int .i64), f_impl_LeafOf d.1⟩]) nilO)
def O_impl_LeavesOf : Orac := OP_impl_LeavesOf N.impl_LeafOf G.impl_LeafOf
def impl_LeavesOf_P_L0 {ρ : Type} (f_impl_LeafOf : TEntry → Int) (g_impl_LeafOf : TEntry → Bool) (k : (List Int) → Option ρ) (L0 : (List TEntry) → Int → Int → (List Int) → Option ρ) (v0_0 : (List TEntry)) (v0_1 : Int) (v0_2 : Int) (v0_3 : (List Int)) : Option ρ := (cond (decide (v0_2 < v0_1)) (cond (inRange v0_2 (List.length v0_0)) (cond (g_impl_LeafOf (List.getD v0_0 (Int.toNat v0_2) (ByteArray.empty, ((0 : Int), ((0 : Int), []))))) (cond (fit (List.length v0_3) (List.length [(f_impl_LeafOf (List.getD v0_0 (Int.toNat v0_2) (ByteArray.empty, ((0 : Int), ((0 : Int), [])))))])) (L0 v0_0 v0_1 (IntKind.wrap .i64 (v0_2 + (1 : Int))) (List.append v0_3 [(f_impl_LeafOf (List.getD v0_0 (Int.toNat v0_2) (ByteArray.empty, ((0 : Int), ((0 : Int), [])))))])) none) none) none) (k v0_3))
def impl_LeavesOf_P {ρ : Type} (f_impl_LeafOf : TEntry → Int) (g_impl_LeafOf : TEntry → Bool) (k : (List Int) → Option ρ) (L0 : (List TEntry) → Int → Int → (List Int) → Option ρ) (a0 : (List TEntry)) : Option ρ := (L0 a0 (List.length a0 : Int) (0 : Int) ([] : (List Int)))
theorem ok_impl_LeavesOf : OracOk Try.prog sigs O_impl_LeavesOf := (orcX_ok rfl rfl (fun d g => said_impl_LeafOf d.1 g) nilO_ok)
def A_impl_LeavesOf : Ann := fun b => cond (Nat.beq b 0) ⟨[(3, true), (7, false), (8, false), (9, false)], []⟩ (⟨[], []⟩)
def S_impl_LeavesOf_0 (v0_0 : (List TEntry)) (v0_1 : Int) (v0_2 : Int) (v0_3 : (List Int)) : St := [(kT 3, some (.tv (.v (.slice 3 (.int .i64)) [] (.own 24)))), (kT 7, some (.tv (.v (.slice 31 TyEntry) v0_0 .no))), (kT 8, some (.tv (.v (.int .i64) v0_1 .no))), (kT 9, some (.tv (.v (.int .i64) v0_2 .no))), (kR 24, some (.row 3 (.int .i64) v0_3))]
noncomputable def L_P_impl_LeavesOf_0 (f_impl_LeafOf : TEntry → Int) (g_impl_LeafOf : TEntry → Bool) (n m : Nat) : St → Option Ret := loopOf tab sigs (OP_impl_LeavesOf f_impl_LeafOf g_impl_LeafOf) A_impl_LeavesOf Try.f62 [((.slice 3 (.int .i64)), (.own 0))] n (fun _ => 0) 0 m
noncomputable def L_impl_LeavesOf_0 (n m : Nat) : St → Option Ret := L_P_impl_LeavesOf_0 N.impl_LeafOf G.impl_LeafOf n m
theorem bP_impl_LeavesOf_0 (f_impl_LeafOf : TEntry → Int) (g_impl_LeafOf : TEntry → Bool) (n m : Nat) (v0_0 : (List TEntry)) (v0_1 : Int) (v0_2 : Int) (v0_3 : (List Int)) : L_P_impl_LeavesOf_0 f_impl_LeafOf g_impl_LeafOf n (m + 1) (S_impl_LeavesOf_0 v0_0 v0_1 v0_2 v0_3) = impl_LeavesOf_P_L0 f_impl_LeafOf g_impl_LeafOf (fun r0 => some [⟨(.slice 3 (.int .i64)), r0⟩]) (fun v0_0 v0_1 v0_2 v0_3 => L_P_impl_LeavesOf_0 f_impl_LeafOf g_impl_LeafOf n m (S_impl_LeavesOf_0 v0_0 v0_1 v0_2 v0_3)) v0_0 v0_1 v0_2 v0_3 := by kernel_rfl
theorem b_impl_LeavesOf_0 (n m : Nat) (v0_0 : (List TEntry)) (v0_1 : Int) (v0_2 : Int) (v0_3 : (List Int)) : L_impl_LeavesOf_0 n (m + 1) (S_impl_LeavesOf_0 v0_0 v0_1 v0_2 v0_3) = impl_LeavesOf_L0 (fun r0 => some [⟨(.slice 3 (.int .i64)), r0⟩]) (fun v0_0 v0_1 v0_2 v0_3 => L_impl_LeavesOf_0 n m (S_impl_LeavesOf_0 v0_0 v0_1 v0_2 v0_3)) v0_0 v0_1 v0_2 v0_3 := bP_impl_LeavesOf_0 N.impl_LeafOf G.impl_LeafOf n m v0_0 v0_1 v0_2 v0_3
theorem aP_impl_LeavesOf (f_impl_LeafOf : TEntry → Int) (g_impl_LeafOf : TEntry → Bool) (n : Nat) (a0 : (List TEntry)) : absF tab sigs (OP_impl_LeavesOf f_impl_LeafOf g_impl_LeafOf) A_impl_LeavesOf Try.f62 [((.slice 3 (.int .i64)), (.own 0))] n [.val (.slice 31 TyEntry) a0] = impl_LeavesOf_P f_impl_LeafOf g_impl_LeafOf (fun r0 => some [⟨(.slice 3 (.int .i64)), r0⟩]) (fun v0_0 v0_1 v0_2 v0_3 => L_P_impl_LeavesOf_0 f_impl_LeafOf g_impl_LeafOf n n (S_impl_LeavesOf_0 v0_0 v0_1 v0_2 v0_3)) a0 := by kernel_rfl
theorem a_impl_LeavesOf (n : Nat) (a0 : (List TEntry)) : absF tab sigs O_impl_LeavesOf A_impl_LeavesOf Try.f62 [((.slice 3 (.int .i64)), (.own 0))] n [.val (.slice 31 TyEntry) a0] = impl_LeavesOf (fun r0 => some [⟨(.slice 3 (.int .i64)), r0⟩]) (fun v0_0 v0_1 v0_2 v0_3 => L_impl_LeavesOf_0 n n (S_impl_LeavesOf_0 v0_0 v0_1 v0_2 v0_3)) a0 := aP_impl_LeavesOf N.impl_LeafOf G.impl_LeafOf n a0
theorem said_impl_LeavesOf (a0 : (List TEntry)) (g : G.impl_LeavesOf a0 = true) : Said Try.prog sigs_62 62 [.val (.slice 31 TyEntry) a0] [⟨(.slice 3 (.int .i64)), N.impl_LeavesOf a0⟩] := said_len (T := tab) (A := A_impl_LeavesOf) tabOk ok_impl_LeavesOf tabOk.follows Try.func62 (by kernel_rfl) (by kernel_rfl) (fun hl => let ⟨n, hn⟩ := impl_LeavesOf_ok (ρ := Ret) (fun r0 => some [⟨(.slice 3 (.int .i64)), r0⟩]) a0 hl.1 g; ⟨n, (a_impl_LeavesOf n a0).trans (hn n (Nat.le_refl n) (fun  m v0_0 v0_1 v0_2 v0_3 => L_impl_LeavesOf_0 n  m (S_impl_LeavesOf_0 v0_0 v0_1 v0_2 v0_3)) (fun  m v0_0 v0_1 v0_2 v0_3 => b_impl_LeavesOf_0 n  m v0_0 v0_1 v0_2 v0_3))⟩)
/-! impl.hash -/
abbrev N.impl_hash (l : List Int) : Int := hash l
def impl_hash {ρ : Type} (k : Int → Option ρ) (a0 : (List Int)) : Option ρ := (k (N.impl_Hash a0))
theorem impl_hash_ok {ρ : Type} (k : Int → Option ρ) (a0 : (List Int)) (l_a0 : lnL (fun _ => True) a0) : impl_hash k  a0 = k (N.impl_hash a0) := by
  rfl
def OP_impl_hash (f_impl_Hash : (List Int) → Int) : Orac := (orcX 90 [.val (.slice 3 (.int .i64))] (fun d => true) (fun d => [⟨(.int .i64), f_impl_Hash d.1⟩]) nilO)
def O_impl_hash : Orac := OP_impl_hash N.impl_Hash
def impl_hash_P {ρ : Type} (f_impl_Hash : (List Int) → Int) (k : Int → Option ρ) (a0 : (List Int)) : Option ρ := (k (f_impl_Hash a0))
theorem ok_impl_hash : OracOk Try.prog sigs O_impl_hash := (orcX_ok rfl rfl (fun d g => said_impl_Hash d.1) nilO_ok)
def A_impl_hash : Ann := fun b => ⟨[], []⟩
theorem aP_impl_hash (f_impl_Hash : (List Int) → Int) (n : Nat) (a0 : (List Int)) : absF tab sigs (OP_impl_hash f_impl_Hash) A_impl_hash Try.f94 [((.int .i64), .no)] n [.val (.slice 3 (.int .i64)) a0] = impl_hash_P f_impl_Hash (fun r0 => some [⟨(.int .i64), r0⟩])  a0 := by kernel_rfl
theorem a_impl_hash (n : Nat) (a0 : (List Int)) : absF tab sigs O_impl_hash A_impl_hash Try.f94 [((.int .i64), .no)] n [.val (.slice 3 (.int .i64)) a0] = impl_hash (fun r0 => some [⟨(.int .i64), r0⟩])  a0 := aP_impl_hash N.impl_Hash n a0
theorem said_impl_hash (a0 : (List Int)) : Said Try.prog sigs_94 94 [.val (.slice 3 (.int .i64)) a0] [⟨(.int .i64), N.impl_hash a0⟩] := said_len (T := tab) (A := A_impl_hash) tabOk ok_impl_hash tabOk.follows Try.func94 (by kernel_rfl) (by kernel_rfl) (fun hl => ⟨0, (a_impl_hash 0 a0).trans (impl_hash_ok (ρ := Ret) (fun r0 => some [⟨(.int .i64), r0⟩]) a0 hl.1)⟩)
/-! impl.NodeOf -/
abbrev N.impl_NodeOf (a b : Int) : Int := nodeOf a b
def impl_NodeOf {ρ : Type} (k : Int → Option ρ) (a0 : Int) (a1 : Int) : Option ρ := (k (N.impl_hash [(229 : Int), a0, a1]))
theorem impl_NodeOf_ok {ρ : Type} (k : Int → Option ρ) (a0 : Int) (a1 : Int) : impl_NodeOf k  a0 a1 = k (N.impl_NodeOf a0 a1) := by
  rfl
def OP_impl_NodeOf (f_impl_hash : (List Int) → Int) : Orac := (orcX 94 [.val (.slice 3 (.int .i64))] (fun d => true) (fun d => [⟨(.int .i64), f_impl_hash d.1⟩]) nilO)
def O_impl_NodeOf : Orac := OP_impl_NodeOf N.impl_hash
def impl_NodeOf_P {ρ : Type} (f_impl_hash : (List Int) → Int) (k : Int → Option ρ) (a0 : Int) (a1 : Int) : Option ρ := (k (f_impl_hash [(229 : Int), a0, a1]))
theorem ok_impl_NodeOf : OracOk Try.prog sigs O_impl_NodeOf := (orcX_ok rfl rfl (fun d g => said_impl_hash d.1) nilO_ok)
def A_impl_NodeOf : Ann := fun b => ⟨[], []⟩
theorem aP_impl_NodeOf (f_impl_hash : (List Int) → Int) (n : Nat) (a0 : Int) (a1 : Int) : absF tab sigs (OP_impl_NodeOf f_impl_hash) A_impl_NodeOf Try.f89 [((.int .i64), .no)] n [.val (.int .i64) a0, .val (.int .i64) a1] = impl_NodeOf_P f_impl_hash (fun r0 => some [⟨(.int .i64), r0⟩])  a0 a1 := by kernel_rfl
theorem a_impl_NodeOf (n : Nat) (a0 : Int) (a1 : Int) : absF tab sigs O_impl_NodeOf A_impl_NodeOf Try.f89 [((.int .i64), .no)] n [.val (.int .i64) a0, .val (.int .i64) a1] = impl_NodeOf (fun r0 => some [⟨(.int .i64), r0⟩])  a0 a1 := aP_impl_NodeOf N.impl_hash n a0 a1
theorem said_impl_NodeOf (a0 : Int) (a1 : Int) : Said Try.prog sigs_89 89 [.val (.int .i64) a0, .val (.int .i64) a1] [⟨(.int .i64), N.impl_NodeOf a0 a1⟩] := said_len (T := tab) (A := A_impl_NodeOf) tabOk ok_impl_NodeOf tabOk.follows Try.func89 (by kernel_rfl) (by kernel_rfl) (fun hl => ⟨0, (a_impl_NodeOf 0 a0 a1).trans (impl_NodeOf_ok (ρ := Ret) (fun r0 => some [⟨(.int .i64), r0⟩]) a0 a1)⟩)
/-! impl.above -/
abbrev G.impl_above (l : List Int) : Bool := decide (l.length ≤ 1048576)
abbrev N.impl_above (l : List Int) : List Int := up l
def impl_above_L0 {ρ : Type} (k : (List Int) → Option ρ) (L0 : (List Int) → Int → (List Int) → Option ρ) (v0_0 : (List Int)) (v0_1 : Int) (v0_2 : (List Int)) : Option ρ := (cond (decide (v0_1 < (List.length v0_0 : Int))) (cond (decide ((IntKind.wrap .i64 (v0_1 + (1 : Int))) < (List.length v0_0 : Int))) (cond (inRange v0_1 (List.length v0_0)) (cond (inRange (IntKind.wrap .i64 (v0_1 + (1 : Int))) (List.length v0_0)) (cond (fit (List.length v0_2) (List.length [(N.impl_NodeOf (List.getD v0_0 (Int.toNat v0_1) (0 : Int)) (List.getD v0_0 (Int.toNat (IntKind.wrap .i64 (v0_1 + (1 : Int)))) (0 : Int)))])) (L0 v0_0 (IntKind.wrap .i64 (v0_1 + (2 : Int))) (List.append v0_2 [(N.impl_NodeOf (List.getD v0_0 (Int.toNat v0_1) (0 : Int)) (List.getD v0_0 (Int.toNat (IntKind.wrap .i64 (v0_1 + (1 : Int)))) (0 : Int)))])) none) none) none) (cond (inRange v0_1 (List.length v0_0)) (cond (fit (List.length v0_2) (List.length [(List.getD v0_0 (Int.toNat v0_1) (0 : Int))])) (L0 v0_0 (IntKind.wrap .i64 (v0_1 + (2 : Int))) (List.append v0_2 [(List.getD v0_0 (Int.toNat v0_1) (0 : Int))])) none) none)) (k v0_2))
def impl_above {ρ : Type} (k : (List Int) → Option ρ) (L0 : (List Int) → Int → (List Int) → Option ρ) (a0 : (List Int)) : Option ρ := (L0 a0 (0 : Int) ([] : (List Int)))
theorem impl_above_ok {ρ : Type} (k : (List Int) → Option ρ) (a0 : (List Int)) (l_a0 : lnL (fun _ => True) a0) (g : G.impl_above a0 = true) : ∃ n0, ∀ n, n0 ≤ n → ∀ (L0 : Nat → (List Int) → Int → (List Int) → Option ρ) (h0 : ∀ ( m : Nat) (v0_0 : (List Int)) (v0_1 : Int) (v0_2 : (List Int)), L0 (m + 1) v0_0 v0_1 v0_2 = impl_above_L0 k (L0 m) v0_0 v0_1 v0_2), impl_above k (L0 n) a0 = k (N.impl_above a0) := by
  unfold G.impl_above at g
  exact spec_l10Up_ok k a0 l_a0 g
def OP_impl_above (f_impl_NodeOf : Int → Int → Int) : Orac := (orcX 89 [.val (.int .i64), .val (.int .i64)] (fun d => true) (fun d => [⟨(.int .i64), f_impl_NodeOf d.1 d.2.1⟩]) nilO)
def O_impl_above : Orac := OP_impl_above N.impl_NodeOf
def impl_above_P_L0 {ρ : Type} (f_impl_NodeOf : Int → Int → Int) (k : (List Int) → Option ρ) (L0 : (List Int) → Int → (List Int) → Option ρ) (v0_0 : (List Int)) (v0_1 : Int) (v0_2 : (List Int)) : Option ρ := (cond (decide (v0_1 < (List.length v0_0 : Int))) (cond (decide ((IntKind.wrap .i64 (v0_1 + (1 : Int))) < (List.length v0_0 : Int))) (cond (inRange v0_1 (List.length v0_0)) (cond (inRange (IntKind.wrap .i64 (v0_1 + (1 : Int))) (List.length v0_0)) (cond (fit (List.length v0_2) (List.length [(f_impl_NodeOf (List.getD v0_0 (Int.toNat v0_1) (0 : Int)) (List.getD v0_0 (Int.toNat (IntKind.wrap .i64 (v0_1 + (1 : Int)))) (0 : Int)))])) (L0 v0_0 (IntKind.wrap .i64 (v0_1 + (2 : Int))) (List.append v0_2 [(f_impl_NodeOf (List.getD v0_0 (Int.toNat v0_1) (0 : Int)) (List.getD v0_0 (Int.toNat (IntKind.wrap .i64 (v0_1 + (1 : Int)))) (0 : Int)))])) none) none) none) (cond (inRange v0_1 (List.length v0_0)) (cond (fit (List.length v0_2) (List.length [(List.getD v0_0 (Int.toNat v0_1) (0 : Int))])) (L0 v0_0 (IntKind.wrap .i64 (v0_1 + (2 : Int))) (List.append v0_2 [(List.getD v0_0 (Int.toNat v0_1) (0 : Int))])) none) none)) (k v0_2))
def impl_above_P {ρ : Type} (f_impl_NodeOf : Int → Int → Int) (k : (List Int) → Option ρ) (L0 : (List Int) → Int → (List Int) → Option ρ) (a0 : (List Int)) : Option ρ := (L0 a0 (0 : Int) ([] : (List Int)))
theorem ok_impl_above : OracOk Try.prog sigs O_impl_above := (orcX_ok rfl rfl (fun d g => said_impl_NodeOf d.1 d.2.1) nilO_ok)
def A_impl_above : Ann := fun b => cond (Nat.beq b 0) ⟨[(0, false), (3, true), (4, false)], []⟩ (⟨[], []⟩)
def S_impl_above_0 (v0_0 : (List Int)) (v0_1 : Int) (v0_2 : (List Int)) : St := [(kT 0, some (.tv (.v (.slice 3 (.int .i64)) v0_0 .no))), (kT 3, some (.tv (.v (.slice 3 (.int .i64)) [] (.own 24)))), (kT 4, some (.tv (.v (.int .i64) v0_1 .no))), (kR 24, some (.row 3 (.int .i64) v0_2))]
noncomputable def L_P_impl_above_0 (f_impl_NodeOf : Int → Int → Int) (n m : Nat) : St → Option Ret := loopOf tab sigs (OP_impl_above f_impl_NodeOf) A_impl_above Try.f100 [((.slice 3 (.int .i64)), (.own 0))] n (fun _ => 0) 0 m
noncomputable def L_impl_above_0 (n m : Nat) : St → Option Ret := L_P_impl_above_0 N.impl_NodeOf n m
theorem bP_impl_above_0 (f_impl_NodeOf : Int → Int → Int) (n m : Nat) (v0_0 : (List Int)) (v0_1 : Int) (v0_2 : (List Int)) : L_P_impl_above_0 f_impl_NodeOf n (m + 1) (S_impl_above_0 v0_0 v0_1 v0_2) = impl_above_P_L0 f_impl_NodeOf (fun r0 => some [⟨(.slice 3 (.int .i64)), r0⟩]) (fun v0_0 v0_1 v0_2 => L_P_impl_above_0 f_impl_NodeOf n m (S_impl_above_0 v0_0 v0_1 v0_2)) v0_0 v0_1 v0_2 := by kernel_rfl
theorem b_impl_above_0 (n m : Nat) (v0_0 : (List Int)) (v0_1 : Int) (v0_2 : (List Int)) : L_impl_above_0 n (m + 1) (S_impl_above_0 v0_0 v0_1 v0_2) = impl_above_L0 (fun r0 => some [⟨(.slice 3 (.int .i64)), r0⟩]) (fun v0_0 v0_1 v0_2 => L_impl_above_0 n m (S_impl_above_0 v0_0 v0_1 v0_2)) v0_0 v0_1 v0_2 := bP_impl_above_0 N.impl_NodeOf n m v0_0 v0_1 v0_2
theorem aP_impl_above (f_impl_NodeOf : Int → Int → Int) (n : Nat) (a0 : (List Int)) : absF tab sigs (OP_impl_above f_impl_NodeOf) A_impl_above Try.f100 [((.slice 3 (.int .i64)), (.own 0))] n [.val (.slice 3 (.int .i64)) a0] = impl_above_P f_impl_NodeOf (fun r0 => some [⟨(.slice 3 (.int .i64)), r0⟩]) (fun v0_0 v0_1 v0_2 => L_P_impl_above_0 f_impl_NodeOf n n (S_impl_above_0 v0_0 v0_1 v0_2)) a0 := by kernel_rfl
theorem a_impl_above (n : Nat) (a0 : (List Int)) : absF tab sigs O_impl_above A_impl_above Try.f100 [((.slice 3 (.int .i64)), (.own 0))] n [.val (.slice 3 (.int .i64)) a0] = impl_above (fun r0 => some [⟨(.slice 3 (.int .i64)), r0⟩]) (fun v0_0 v0_1 v0_2 => L_impl_above_0 n n (S_impl_above_0 v0_0 v0_1 v0_2)) a0 := aP_impl_above N.impl_NodeOf n a0
theorem said_impl_above (a0 : (List Int)) (g : G.impl_above a0 = true) : Said Try.prog sigs_100 100 [.val (.slice 3 (.int .i64)) a0] [⟨(.slice 3 (.int .i64)), N.impl_above a0⟩] := said_len (T := tab) (A := A_impl_above) tabOk ok_impl_above tabOk.follows Try.func100 (by kernel_rfl) (by kernel_rfl) (fun hl => let ⟨n, hn⟩ := impl_above_ok (ρ := Ret) (fun r0 => some [⟨(.slice 3 (.int .i64)), r0⟩]) a0 hl.1 g; ⟨n, (a_impl_above n a0).trans (hn n (Nat.le_refl n) (fun  m v0_0 v0_1 v0_2 => L_impl_above_0 n  m (S_impl_above_0 v0_0 v0_1 v0_2)) (fun  m v0_0 v0_1 v0_2 => b_impl_above_0 n  m v0_0 v0_1 v0_2))⟩)
/-! impl.PathFor -/
abbrev G.impl_PathFor (l : List Int) (i : Int) : Bool := decide (l.length ≤ 1048576)
abbrev N.impl_PathFor (l : List Int) (i : Int) : List Int := pathFor l i
def impl_PathFor_L0 {ρ : Type} (k : (List Int) → Option ρ) (L0 : (List Int) → Int → (List Int) → Option ρ) (v0_0 : (List Int)) (v0_1 : Int) (v0_2 : (List Int)) : Option ρ := (cond (decide ((List.length v0_0 : Int) > (1 : Int))) (cond (decide ((xorI .i64 v0_1 (1 : Int)) < (List.length v0_0 : Int))) (cond (inRange (xorI .i64 v0_1 (1 : Int)) (List.length v0_0)) (cond (fit (List.length v0_2) (List.length [(List.getD v0_0 (Int.toNat (xorI .i64 v0_1 (1 : Int))) (0 : Int))])) (cond (G.impl_above v0_0) (L0 (N.impl_above v0_0) (IntKind.wrap .i64 (Int.tdiv v0_1 (2 : Int))) (List.append v0_2 [(List.getD v0_0 (Int.toNat (xorI .i64 v0_1 (1 : Int))) (0 : Int))])) none) none) none) (cond (G.impl_above v0_0) (L0 (N.impl_above v0_0) (IntKind.wrap .i64 (Int.tdiv v0_1 (2 : Int))) v0_2) none)) (k v0_2))
def impl_PathFor {ρ : Type} (k : (List Int) → Option ρ) (L0 : (List Int) → Int → (List Int) → Option ρ) (a0 : (List Int)) (a1 : Int) : Option ρ := (cond (!(N.impl_InRange a1 (0 : Int) (IntKind.wrap .i64 ((List.length a0 : Int) - (1 : Int))))) (k ([] : (List Int))) (L0 a0 a1 ([] : (List Int))))
theorem impl_PathFor_ok {ρ : Type} (k : (List Int) → Option ρ) (a0 : (List Int)) (a1 : Int) (l_a0 : lnL (fun _ => True) a0) (g : G.impl_PathFor a0 a1 = true) : ∃ n0, ∀ n, n0 ≤ n → ∀ (L0 : Nat → (List Int) → Int → (List Int) → Option ρ) (h0 : ∀ ( m : Nat) (v0_0 : (List Int)) (v0_1 : Int) (v0_2 : (List Int)), L0 (m + 1) v0_0 v0_1 v0_2 = impl_PathFor_L0 k (L0 m) v0_0 v0_1 v0_2), impl_PathFor k (L0 n) a0 a1 = k (N.impl_PathFor a0 a1) := by
  unfold G.impl_PathFor at g
  have hlen : a0.length ≤ 1048576 := of_decide_eq_true g
  refine ⟨a0.length + 1, fun n hn L0 h0 => ?_⟩
  show impl_PathFor k (L0 n) a0 a1 = k (pathFor a0 a1)
  unfold impl_PathFor pathFor
  dsimp only [N.impl_InRange]
  rw [wrap_id (n := (a0.length : Int) - 1) (by omega) (by omega)]
  cases hi1 : inR a1 0 ((a0.length : Int) - 1) with
  | false => rfl
  | true =>
    have hi2 : 0 ≤ a1 ∧ a1 ≤ (a0.length : Int) - 1 := by simpa [inR] using hi1
    show L0 n a0 a1 [] = k (pathN a0.length a1.toNat a0)
    refine (raw_meas (σ := Int × List Int × List Int) (L := fun m s => L0 m s.2.1 s.1 s.2.2) (R := fun s c => impl_PathFor_L0 k (fun l i o => c (i, l, o)) s.2.1 s.1 s.2.2)
      (fun m s => h0 m _ _ _) (fun s => 0 ≤ s.1 ∧ s.1 < s.2.1.length ∧ s.2.2.length + s.2.1.length ≤ 1048576) (fun s => s.2.1.length) (fun s => k (s.2.2 ++ pathN s.2.1.length s.1.toNat s.2.1)) (fun s c hI hc => ?_) n (a1, a0, []) ⟨hi2.1, by dsimp only; omega, by simp; omega⟩ (by dsimp only; omega)).trans (by simp)
    obtain ⟨i, l, o⟩ := s
    obtain ⟨b0, b1, b2⟩ := hI
    dsimp only at b0 b1 b2 hc ⊢
    obtain ⟨i, rfl⟩ := Int.eq_ofNat_of_zero_le b0
    simp only [Int.toNat_natCast] at hc ⊢
    by_cases h1 : 1 < l.length
    · obtain ⟨f, hf⟩ : ∃ f, l.length = f + 1 := ⟨l.length - 1, by omega⟩
      have hu := up_len l
      have e1 : decide ((l.length : Int) > 1) = true := by simp; omega
      have hx : xorI .i64 (i : Int) 1 = ((sib i : Nat) : Int) := xor_sib (by omega)
      have g1 : decide (l.length ≤ 1048576) = true := by simp; omega
      have step : ∀ o', o'.length ≤ o.length + 1 → c (((i / 2 : Nat) : Int), up l, o') = k (o' ++ pathN f (i / 2) (up l)) := by
        intro o' ho'
        have := hc (((i / 2 : Nat) : Int), up l, o') ⟨by simp; omega, by simp; omega, by simp; omega⟩ (by simp; omega)
        simp only [Int.toNat_natCast] at this
        rw [this, pathN_more _ f _ _ (by omega) (by omega)]
      rw [hf]
      unfold pathN
      rw [decide_eq_true h1]
      by_cases hs : sib i < l.length
      · have e3 : fit o.length 1 = true := fit_of (by omega)
        simp only [impl_PathFor_L0, e1, hx, lt_nat, inRange_nat, decide_eq_true hs, cond_true, Int.toNat_natCast, List.length_singleton, e3, List.append_eq, tdiv2 (i := i) (by omega), G.impl_above, g1, N.impl_above]
        rw [step _ (by simp)]
        simp
      · simp only [impl_PathFor_L0, e1, hx, lt_nat, inRange_nat, decide_eq_false hs, cond_true, cond_false, tdiv2 (i := i) (by omega), G.impl_above, g1, N.impl_above]
        rw [step _ (by omega)]
        simp
    · have e1 : decide ((l.length : Int) > 1) = false := by simp; omega
      obtain ⟨f, hf⟩ : ∃ f, l.length = f + 1 := ⟨l.length - 1, by omega⟩
      rw [hf]
      unfold pathN
      rw [decide_eq_false h1]
      simp [impl_PathFor_L0, e1]
def OP_impl_PathFor (f_impl_InRange : Int → Int → Int → Bool) (f_impl_above : (List Int) → (List Int)) (g_impl_above : (List Int) → Bool) : Orac := (orcX 100 [.val (.slice 3 (.int .i64))] (fun d => g_impl_above d.1) (fun d => [⟨(.slice 3 (.int .i64)), f_impl_above d.1⟩]) (orcX 72 [.val (.int .i64), .val (.int .i64), .val (.int .i64)] (fun d => true) (fun d => [⟨.bool, f_impl_InRange d.1 d.2.1 d.2.2.1⟩]) nilO))
def O_impl_PathFor : Orac := OP_impl_PathFor N.impl_InRange N.impl_above G.impl_above
def impl_PathFor_P_L0 {ρ : Type} (f_impl_InRange : Int → Int → Int → Bool) (f_impl_above : (List Int) → (List Int)) (g_impl_above : (List Int) → Bool) (k : (List Int) → Option ρ) (L0 : (List Int) → Int → (List Int) → Option ρ) (v0_0 : (List Int)) (v0_1 : Int) (v0_2 : (List Int)) : Option ρ := (cond (decide ((List.length v0_0 : Int) > (1 : Int))) (cond (decide ((xorI .i64 v0_1 (1 : Int)) < (List.length v0_0 : Int))) (cond (inRange (xorI .i64 v0_1 (1 : Int)) (List.length v0_0)) (cond (fit (List.length v0_2) (List.length [(List.getD v0_0 (Int.toNat (xorI .i64 v0_1 (1 : Int))) (0 : Int))])) (cond (g_impl_above v0_0) (L0 (f_impl_above v0_0) (IntKind.wrap .i64 (Int.tdiv v0_1 (2 : Int))) (List.append v0_2 [(List.getD v0_0 (Int.toNat (xorI .i64 v0_1 (1 : Int))) (0 : Int))])) none) none) none) (cond (g_impl_above v0_0) (L0 (f_impl_above v0_0) (IntKind.wrap .i64 (Int.tdiv v0_1 (2 : Int))) v0_2) none)) (k v0_2))
def impl_PathFor_P {ρ : Type} (f_impl_InRange : Int → Int → Int → Bool) (f_impl_above : (List Int) → (List Int)) (g_impl_above : (List Int) → Bool) (k : (List Int) → Option ρ) (L0 : (List Int) → Int → (List Int) → Option ρ) (a0 : (List Int)) (a1 : Int) : Option ρ := (cond (!(f_impl_InRange a1 (0 : Int) (IntKind.wrap .i64 ((List.length a0 : Int) - (1 : Int))))) (k ([] : (List Int))) (L0 a0 a1 ([] : (List Int))))
theorem ok_impl_PathFor : OracOk Try.prog sigs O_impl_PathFor := (orcX_ok rfl rfl (fun d g => said_impl_above d.1 g) (orcX_ok rfl rfl (fun d g => said_impl_InRange d.1 d.2.1 d.2.2.1) nilO_ok))
def A_impl_PathFor : Ann := fun b => cond (Nat.beq b 0) ⟨[(0, false), (1, false), (5, true)], []⟩ (⟨[], []⟩)
def S_impl_PathFor_0 (v0_0 : (List Int)) (v0_1 : Int) (v0_2 : (List Int)) : St := [(kT 0, some (.tv (.v (.slice 3 (.int .i64)) v0_0 .no))), (kT 1, some (.tv (.v (.int .i64) v0_1 .no))), (kT 5, some (.tv (.v (.slice 3 (.int .i64)) [] (.own 40)))), (kR 40, some (.row 3 (.int .i64) v0_2))]
noncomputable def L_P_impl_PathFor_0 (f_impl_InRange : Int → Int → Int → Bool) (f_impl_above : (List Int) → (List Int)) (g_impl_above : (List Int) → Bool) (n m : Nat) : St → Option Ret := loopOf tab sigs (OP_impl_PathFor f_impl_InRange f_impl_above g_impl_above) A_impl_PathFor Try.f61 [((.slice 3 (.int .i64)), (.own 0))] n (fun _ => 0) 0 m
noncomputable def L_impl_PathFor_0 (n m : Nat) : St → Option Ret := L_P_impl_PathFor_0 N.impl_InRange N.impl_above G.impl_above n m
theorem bP_impl_PathFor_0 (f_impl_InRange : Int → Int → Int → Bool) (f_impl_above : (List Int) → (List Int)) (g_impl_above : (List Int) → Bool) (n m : Nat) (v0_0 : (List Int)) (v0_1 : Int) (v0_2 : (List Int)) : L_P_impl_PathFor_0 f_impl_InRange f_impl_above g_impl_above n (m + 1) (S_impl_PathFor_0 v0_0 v0_1 v0_2) = impl_PathFor_P_L0 f_impl_InRange f_impl_above g_impl_above (fun r0 => some [⟨(.slice 3 (.int .i64)), r0⟩]) (fun v0_0 v0_1 v0_2 => L_P_impl_PathFor_0 f_impl_InRange f_impl_above g_impl_above n m (S_impl_PathFor_0 v0_0 v0_1 v0_2)) v0_0 v0_1 v0_2 := by kernel_rfl
theorem b_impl_PathFor_0 (n m : Nat) (v0_0 : (List Int)) (v0_1 : Int) (v0_2 : (List Int)) : L_impl_PathFor_0 n (m + 1) (S_impl_PathFor_0 v0_0 v0_1 v0_2) = impl_PathFor_L0 (fun r0 => some [⟨(.slice 3 (.int .i64)), r0⟩]) (fun v0_0 v0_1 v0_2 => L_impl_PathFor_0 n m (S_impl_PathFor_0 v0_0 v0_1 v0_2)) v0_0 v0_1 v0_2 := bP_impl_PathFor_0 N.impl_InRange N.impl_above G.impl_above n m v0_0 v0_1 v0_2
theorem aP_impl_PathFor (f_impl_InRange : Int → Int → Int → Bool) (f_impl_above : (List Int) → (List Int)) (g_impl_above : (List Int) → Bool) (n : Nat) (a0 : (List Int)) (a1 : Int) : absF tab sigs (OP_impl_PathFor f_impl_InRange f_impl_above g_impl_above) A_impl_PathFor Try.f61 [((.slice 3 (.int .i64)), (.own 0))] n [.val (.slice 3 (.int .i64)) a0, .val (.int .i64) a1] = impl_PathFor_P f_impl_InRange f_impl_above g_impl_above (fun r0 => some [⟨(.slice 3 (.int .i64)), r0⟩]) (fun v0_0 v0_1 v0_2 => L_P_impl_PathFor_0 f_impl_InRange f_impl_above g_impl_above n n (S_impl_PathFor_0 v0_0 v0_1 v0_2)) a0 a1 := by kernel_rfl
theorem a_impl_PathFor (n : Nat) (a0 : (List Int)) (a1 : Int) : absF tab sigs O_impl_PathFor A_impl_PathFor Try.f61 [((.slice 3 (.int .i64)), (.own 0))] n [.val (.slice 3 (.int .i64)) a0, .val (.int .i64) a1] = impl_PathFor (fun r0 => some [⟨(.slice 3 (.int .i64)), r0⟩]) (fun v0_0 v0_1 v0_2 => L_impl_PathFor_0 n n (S_impl_PathFor_0 v0_0 v0_1 v0_2)) a0 a1 := aP_impl_PathFor N.impl_InRange N.impl_above G.impl_above n a0 a1
theorem said_impl_PathFor (a0 : (List Int)) (a1 : Int) (g : G.impl_PathFor a0 a1 = true) : Said Try.prog sigs_61 61 [.val (.slice 3 (.int .i64)) a0, .val (.int .i64) a1] [⟨(.slice 3 (.int .i64)), N.impl_PathFor a0 a1⟩] := said_len (T := tab) (A := A_impl_PathFor) tabOk ok_impl_PathFor tabOk.follows Try.func61 (by kernel_rfl) (by kernel_rfl) (fun hl => let ⟨n, hn⟩ := impl_PathFor_ok (ρ := Ret) (fun r0 => some [⟨(.slice 3 (.int .i64)), r0⟩]) a0 a1 hl.1 g; ⟨n, (a_impl_PathFor n a0 a1).trans (hn n (Nat.le_refl n) (fun  m v0_0 v0_1 v0_2 => L_impl_PathFor_0 n  m (S_impl_PathFor_0 v0_0 v0_1 v0_2)) (fun  m v0_0 v0_1 v0_2 => b_impl_PathFor_0 n  m v0_0 v0_1 v0_2))⟩)
end Go.Proofs.Ythegggkfngnehaa.Ref
