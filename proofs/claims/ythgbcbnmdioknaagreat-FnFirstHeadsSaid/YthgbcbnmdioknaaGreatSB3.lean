/- Functions of the program: what each computes, and that it does so.
   Conditions: as each theorem states. -/
import Derived.Test.YthgbcbnmdioknaaGreatSB2
set_option linter.unusedVariables false
set_option linter.unusedSimpArgs false
set_option maxRecDepth 100000
namespace Go.Proofs.YthgbcbnmdioknaaGreat.Ref
open Go.RowKit Go.Proofs.YthgbcbnmdioknaaGreatW.PrintWords Go.Proofs.YthgbcbnmdioknaaGreatW.PrintLast
abbrev G.impl_FirstHead (k : TKeys) (salt : Int) (l : List TEntry) (a b : Int) : Bool := decide (wK k ≤ 1048576) && decide (wEs l ≤ 1048576)
abbrev N.impl_FirstHead (k : TKeys) (salt : Int) (l : List TEntry) (a b : Int) : THead × Bool := firstHead k salt l a b
def impl_FirstHead_P {ρ : Type} (f0 : TKeys → Int → Int) (g0 : TKeys → Int → Bool) (f1 : Int → Int → Int) (f2 : (List TEntry) → Int) (g2 : (List TEntry) → Bool) (f3 : TKeys → TKeys) (g3 : TKeys → Bool) (f4 : (List TEntry) → Bool) (g4 : (List TEntry) → Bool) (f5 : THead → Bool) (k : THead → Bool → Option ρ) (a0 : TKeys) (a1 : Int) (a2 : (List TEntry)) (a3 : Int) (a4 : Int) : Option ρ := (cond (g0 a0 a1) (cond (g2 a2) (cond (g3 a0) (cond (g4 a2) (cond (!(f4 a2)) (k ((0 : Int), ((0 : Int), ((0 : Int), ((0 : Int), ((0 : Int), ((0 : Int), ((0 : Int), ((0 : Int), (([], (0 : Int)), (([], (0 : Int)), ((0 : Int), (([], (0 : Int)), false)))))))))))) false) (cond (!(f5 ((f0 a0 a1), ((0 : Int), ((1 : Int), (a3, ((f1 a3 a4), ((List.length a2 : Int), ((f2 a2), (a1, ((f3 a0), ((([] : (List Int)), (0 : Int)), ((0 : Int), ((([] : (List Int)), (0 : Int)), false)))))))))))))) (k ((0 : Int), ((0 : Int), ((0 : Int), ((0 : Int), ((0 : Int), ((0 : Int), ((0 : Int), ((0 : Int), (([], (0 : Int)), (([], (0 : Int)), ((0 : Int), (([], (0 : Int)), false)))))))))))) false) (k ((f0 a0 a1), ((0 : Int), ((1 : Int), (a3, ((f1 a3 a4), ((List.length a2 : Int), ((f2 a2), (a1, ((f3 a0), (([], (0 : Int)), ((0 : Int), (([], (0 : Int)), false)))))))))))) true))) none) none) none) none)
def impl_FirstHead {ρ : Type} (k : THead → Bool → Option ρ) (a0 : TKeys) (a1 : Int) (a2 : (List TEntry)) (a3 : Int) (a4 : Int) : Option ρ := impl_FirstHead_P N.impl_ZoneOf G.impl_ZoneOf N.impl_until N.impl_RootOf G.impl_RootOf N.impl_copyKeys G.impl_copyKeys N.impl_AreEntries G.impl_AreEntries N.impl_IsHead k a0 a1 a2 a3 a4
theorem impl_FirstHead_ok {ρ : Type} (k : THead → Bool → Option ρ) (a0 : TKeys) (a1 : Int) (a2 : (List TEntry)) (a3 : Int) (a4 : Int) (l_a0 : (lnL (fun _ => True) a0.1 ∧ True)) (l_a2 : lnL (fun y => (True ∧ (True ∧ (True ∧ lnL (fun _ => True) y.2.2.2)))) a2) (g : G.impl_FirstHead a0 a1 a2 a3 a4 = true) : impl_FirstHead k  a0 a1 a2 a3 a4 = k (N.impl_FirstHead a0 a1 a2 a3 a4).1 (N.impl_FirstHead a0 a1 a2 a3 a4).2 := by
  unfold G.impl_FirstHead at g
  obtain ⟨g1, g2⟩ := (Bool.and_eq_true _ _).mp g
  simp only [impl_FirstHead, impl_FirstHead_P, G.impl_AreEntries, N.impl_AreEntries, N.impl_until, G.impl_ZoneOf, N.impl_ZoneOf, G.impl_RootOf, N.impl_RootOf, G.impl_copyKeys, N.impl_copyKeys, N.impl_IsHead, g1, g2, cond_true]
  show cond (!(areEntries a2)) (k zeroHead false) (cond (!(isHead (headOf a0 a1 a2 a3 (tillM a3 a4)))) (k zeroHead false) (k (headOf a0 a1 a2 a3 (tillM a3 a4)) true)) = k (firstHead a0 a1 a2 a3 a4).1 (firstHead a0 a1 a2 a3 a4).2
  rw [← firstHead_impl]
  cases areEntries a2 <;> cases isHead (headOf a0 a1 a2 a3 (tillM a3 a4)) <;> rfl
def OP_impl_FirstHead (f0 : TKeys → Int → Int) (g0 : TKeys → Int → Bool) (f1 : Int → Int → Int) (f2 : (List TEntry) → Int) (g2 : (List TEntry) → Bool) (f3 : TKeys → TKeys) (g3 : TKeys → Bool) (f4 : (List TEntry) → Bool) (g4 : (List TEntry) → Bool) (f5 : THead → Bool) : Orac := (orcX 63 [.val TyHead] (fun d => true) (fun d => [⟨.bool, f5 d.1⟩]) (orcX 29 [.val (.slice 29 TyEntry)] (fun d => g4 d.1) (fun d => [⟨.bool, f4 d.1⟩]) (orcX 62 [.val (.pair (.slice 3 (.int .i64)) (.int .i64))] (fun d => g3 d.1) (fun d => [⟨(.pair (.slice 3 (.int .i64)) (.int .i64)), f3 d.1⟩]) (orcX 10 [.val (.slice 29 TyEntry)] (fun d => g2 d.1) (fun d => [⟨(.int .i64), f2 d.1⟩]) (orcX 61 [.val (.int .i64), .val (.int .i64)] (fun d => true) (fun d => [⟨(.int .i64), f1 d.1 d.2.1⟩]) (orcX 22 [.val (.pair (.slice 3 (.int .i64)) (.int .i64)), .val (.int .i64)] (fun d => g0 d.1 d.2.1) (fun d => [⟨(.int .i64), f0 d.1 d.2.1⟩]) nilO))))))
def O_impl_FirstHead : Orac := OP_impl_FirstHead N.impl_ZoneOf G.impl_ZoneOf N.impl_until N.impl_RootOf G.impl_RootOf N.impl_copyKeys G.impl_copyKeys N.impl_AreEntries G.impl_AreEntries N.impl_IsHead
theorem ok_impl_FirstHead : OracOk Tryz.prog sigs O_impl_FirstHead := (orcX_ok rfl rfl (fun d g => said_impl_IsHead d.1) (orcX_ok rfl rfl (fun d g => said_impl_AreEntries d.1 g) (orcX_ok rfl rfl (fun d g => said_impl_copyKeys d.1 g) (orcX_ok rfl rfl (fun d g => said_impl_RootOf d.1 g) (orcX_ok rfl rfl (fun d g => said_impl_until d.1 d.2.1) (orcX_ok rfl rfl (fun d g => said_impl_ZoneOf d.1 d.2.1 g) nilO_ok))))))
def A_impl_FirstHead : Ann := fun b => ⟨[], []⟩
theorem aP_impl_FirstHead (f0 : TKeys → Int → Int) (g0 : TKeys → Int → Bool) (f1 : Int → Int → Int) (f2 : (List TEntry) → Int) (g2 : (List TEntry) → Bool) (f3 : TKeys → TKeys) (g3 : TKeys → Bool) (f4 : (List TEntry) → Bool) (g4 : (List TEntry) → Bool) (f5 : THead → Bool) (n : Nat) (a0 : TKeys) (a1 : Int) (a2 : (List TEntry)) (a3 : Int) (a4 : Int) : absF tab sigs (OP_impl_FirstHead f0 g0 f1 f2 g2 f3 g3 f4 g4 f5) A_impl_FirstHead Tryz.f16 [(TyHead, (.pair .no (.pair .no (.pair .no (.pair .no (.pair .no (.pair .no (.pair .no (.pair .no (.pair (.pair (.own 0) .no) (.pair (.pair (.own 1) .no) (.pair .no (.pair (.pair (.own 2) .no) .no))))))))))))), (.bool, .no)] n [.val (.pair (.slice 3 (.int .i64)) (.int .i64)) a0, .val (.int .i64) a1, .val (.slice 29 TyEntry) a2, .val (.int .i64) a3, .val (.int .i64) a4] = impl_FirstHead_P f0 g0 f1 f2 g2 f3 g3 f4 g4 f5 (fun r0 r1 => some [⟨TyHead, r0⟩, ⟨.bool, r1⟩])  a0 a1 a2 a3 a4 := by kernel_rfl
theorem said_impl_FirstHead (a0 : TKeys) (a1 : Int) (a2 : (List TEntry)) (a3 : Int) (a4 : Int) (g : G.impl_FirstHead a0 a1 a2 a3 a4 = true) : Said Tryz.prog sigs_16 16 [.val (.pair (.slice 3 (.int .i64)) (.int .i64)) a0, .val (.int .i64) a1, .val (.slice 29 TyEntry) a2, .val (.int .i64) a3, .val (.int .i64) a4] [⟨TyHead, (N.impl_FirstHead a0 a1 a2 a3 a4).1⟩, ⟨.bool, (N.impl_FirstHead a0 a1 a2 a3 a4).2⟩] := said_len (T := tab) (A := A_impl_FirstHead) tabOk ok_impl_FirstHead tabOk.follows Tryz.func16 (by kernel_rfl) (by kernel_rfl) (fun hl => ⟨0, (aP_impl_FirstHead N.impl_ZoneOf G.impl_ZoneOf N.impl_until N.impl_RootOf G.impl_RootOf N.impl_copyKeys G.impl_copyKeys N.impl_AreEntries G.impl_AreEntries N.impl_IsHead 0 a0 a1 a2 a3 a4).trans (impl_FirstHead_ok (ρ := Ret) (fun r0 r1 => some [⟨TyHead, r0⟩, ⟨.bool, r1⟩]) a0 a1 a2 a3 a4 hl.1 hl.2.2.1 g)⟩)
abbrev G.spec_KeysInts (k : TKeys) : Bool := decide (wK k ≤ 1048576)
abbrev N.spec_KeysInts (k : TKeys) : List Int := keysInts k
def spec_KeysInts {ρ : Type} (k : (List Int) → Option ρ) (a0 : TKeys) : Option ρ := (cond (fit (List.length [a0.2, (List.length a0.1 : Int)]) (List.length a0.1)) (k (List.append [a0.2, (List.length a0.1 : Int)] a0.1)) none)
theorem spec_KeysInts_ok {ρ : Type} (k : (List Int) → Option ρ) (a0 : TKeys) (l_a0 : (lnL (fun _ => True) a0.1 ∧ True)) (g : G.spec_KeysInts a0 = true) : spec_KeysInts k  a0 = k (N.spec_KeysInts a0) := by
  unfold G.spec_KeysInts at g
  have h : wK a0 ≤ 1048576 := of_decide_eq_true g
  have h1 : fit (List.length [a0.2, (List.length a0.1 : Int)]) (List.length a0.1) = true := fit_of (by
    unfold wK at h
    simp
    omega)
  show cond _ _ none = _
  rw [h1]
  rfl
def O_spec_KeysInts : Orac := nilO
theorem ok_spec_KeysInts : OracOk Tryz.prog sigs O_spec_KeysInts := nilO_ok
def A_spec_KeysInts : Ann := fun b => ⟨[], []⟩
theorem a_spec_KeysInts (n : Nat) (a0 : TKeys) : absF tab sigs O_spec_KeysInts A_spec_KeysInts Tryz.f78 [((.slice 3 (.int .i64)), (.own 0))] n [.val (.pair (.slice 3 (.int .i64)) (.int .i64)) a0] = spec_KeysInts (fun r0 => some [⟨(.slice 3 (.int .i64)), r0⟩])  a0 := by kernel_rfl
theorem said_spec_KeysInts (a0 : TKeys) (g : G.spec_KeysInts a0 = true) : Said Tryz.prog sigs_78 78 [.val (.pair (.slice 3 (.int .i64)) (.int .i64)) a0] [⟨(.slice 3 (.int .i64)), N.spec_KeysInts a0⟩] := said_len (T := tab) (A := A_spec_KeysInts) tabOk ok_spec_KeysInts tabOk.follows Tryz.func78 (by kernel_rfl) (by kernel_rfl) (fun hl => ⟨0, (a_spec_KeysInts 0 a0).trans (spec_KeysInts_ok (ρ := Ret) (fun r0 => some [⟨(.slice 3 (.int .i64)), r0⟩]) a0 hl.1 g)⟩)
abbrev G.spec_ZoneOf (k : TKeys) (salt : Int) : Bool := decide (wK k ≤ 1048576)
abbrev N.spec_ZoneOf (k : TKeys) (salt : Int) : Int := zoneOf k salt
def spec_ZoneOf {ρ : Type} (k : Int → Option ρ) (a0 : TKeys) (a1 : Int) : Option ρ := (cond (G.spec_KeysInts a0) (cond (fit (List.length [(239 : Int), a1]) (List.length (N.spec_KeysInts a0))) (k (N.spec_Hash (List.append [(239 : Int), a1] (N.spec_KeysInts a0)))) none) none)
theorem spec_ZoneOf_ok {ρ : Type} (k : Int → Option ρ) (a0 : TKeys) (a1 : Int) (l_a0 : (lnL (fun _ => True) a0.1 ∧ True)) (g : G.spec_ZoneOf a0 a1 = true) : spec_ZoneOf k  a0 a1 = k (N.spec_ZoneOf a0 a1) := by
  unfold G.spec_ZoneOf at g
  have h : wK a0 ≤ 1048576 := of_decide_eq_true g
  have h1 : fit (List.length [(239 : Int), a1]) (List.length (keysInts a0)) = true := fit_of (by
    rw [keysInts_len]
    simp
    omega)
  show cond (decide (wK a0 ≤ 1048576)) (cond _ _ none) none = _
  rw [g, h1]
  rfl
def OP_spec_ZoneOf (f0 : TKeys → (List Int)) (g0 : TKeys → Bool) (f1 : (List Int) → Int) : Orac := (orcX 77 [.val (.slice 3 (.int .i64))] (fun d => true) (fun d => [⟨(.int .i64), f1 d.1⟩]) (orcX 78 [.val (.pair (.slice 3 (.int .i64)) (.int .i64))] (fun d => g0 d.1) (fun d => [⟨(.slice 3 (.int .i64)), f0 d.1⟩]) nilO))
def O_spec_ZoneOf : Orac := OP_spec_ZoneOf N.spec_KeysInts G.spec_KeysInts N.spec_Hash
def spec_ZoneOf_P {ρ : Type} (f0 : TKeys → (List Int)) (g0 : TKeys → Bool) (f1 : (List Int) → Int) (k : Int → Option ρ) (a0 : TKeys) (a1 : Int) : Option ρ := (cond (g0 a0) (cond (fit (List.length [(239 : Int), a1]) (List.length (f0 a0))) (k (f1 (List.append [(239 : Int), a1] (f0 a0)))) none) none)
theorem ok_spec_ZoneOf : OracOk Tryz.prog sigs O_spec_ZoneOf := (orcX_ok rfl rfl (fun d g => said_spec_Hash d.1) (orcX_ok rfl rfl (fun d g => said_spec_KeysInts d.1 g) nilO_ok))
def A_spec_ZoneOf : Ann := fun b => ⟨[], []⟩
theorem aP_spec_ZoneOf (f0 : TKeys → (List Int)) (g0 : TKeys → Bool) (f1 : (List Int) → Int) (n : Nat) (a0 : TKeys) (a1 : Int) : absF tab sigs (OP_spec_ZoneOf f0 g0 f1) A_spec_ZoneOf Tryz.f27 [((.int .i64), .no)] n [.val (.pair (.slice 3 (.int .i64)) (.int .i64)) a0, .val (.int .i64) a1] = spec_ZoneOf_P f0 g0 f1 (fun r0 => some [⟨(.int .i64), r0⟩])  a0 a1 := by kernel_rfl
theorem said_spec_ZoneOf (a0 : TKeys) (a1 : Int) (g : G.spec_ZoneOf a0 a1 = true) : Said Tryz.prog sigs_27 27 [.val (.pair (.slice 3 (.int .i64)) (.int .i64)) a0, .val (.int .i64) a1] [⟨(.int .i64), N.spec_ZoneOf a0 a1⟩] := said_len (T := tab) (A := A_spec_ZoneOf) tabOk ok_spec_ZoneOf tabOk.follows Tryz.func27 (by kernel_rfl) (by kernel_rfl) (fun hl => ⟨0, (aP_spec_ZoneOf N.spec_KeysInts G.spec_KeysInts N.spec_Hash 0 a0 a1).trans (spec_ZoneOf_ok (ρ := Ret) (fun r0 => some [⟨(.int .i64), r0⟩]) a0 a1 hl.1 g)⟩)
abbrev G.spec_BytesToInts (b : List Int) : Bool := decide (b.length ≤ 1048577)
abbrev N.spec_BytesToInts (b : List Int) : List Int := bytesInts b
def spec_BytesToInts_L0 {ρ : Type} (k : (List Int) → Option ρ) (L0 : (List Int) → Int → (List Int) → Option ρ) (v0_0 : (List Int)) (v0_1 : Int) (v0_2 : (List Int)) : Option ρ := (cond (decide (v0_1 < (List.length v0_0 : Int))) (cond (inRange v0_1 (List.length v0_0)) (cond (fit (List.length v0_2) (List.length [(IntKind.wrap .i64 (List.getD v0_0 (Int.toNat v0_1) (0 : Int)))])) (L0 v0_0 (IntKind.wrap .i64 (v0_1 + (1 : Int))) (List.append v0_2 [(IntKind.wrap .i64 (List.getD v0_0 (Int.toNat v0_1) (0 : Int)))])) none) none) (k v0_2))
def spec_BytesToInts {ρ : Type} (k : (List Int) → Option ρ) (L0 : (List Int) → Int → (List Int) → Option ρ) (a0 : (List Int)) : Option ρ := (L0 a0 (0 : Int) [(List.length a0 : Int)])
theorem spec_BytesToInts_ok {ρ : Type} (k : (List Int) → Option ρ) (a0 : (List Int)) (l_a0 : lnL (fun _ => True) a0) (g : G.spec_BytesToInts a0 = true) : ∃ n0, ∀ n, n0 ≤ n → ∀ (L0 : Nat → (List Int) → Int → (List Int) → Option ρ) (h0 : ∀ ( m : Nat) (v0_0 : (List Int)) (v0_1 : Int) (v0_2 : (List Int)), L0 (m + 1) v0_0 v0_1 v0_2 = spec_BytesToInts_L0 k (L0 m) v0_0 v0_1 v0_2), spec_BytesToInts k (L0 n) a0 = k (N.spec_BytesToInts a0) := by
  unfold G.spec_BytesToInts at g
  have hlen : a0.length ≤ 1048577 := of_decide_eq_true g
  refine ⟨a0.length + 1, fun n hn L0 h0 => ?_⟩
  refine (raw_foldl (a := a0) 0 (fun o x => o ++ [IntKind.wrap .i64 x]) (k := k) (s := [(a0.length : Int)]) (L := fun m i s => L0 m a0 i s) (R := fun i s c => spec_BytesToInts_L0 k (fun _ i s => c i s) a0 i s) (fun m i s => h0 m a0 i s) (fun j o => o.length ≤ j + 1) (fun j s c hj hI => ?_) (fun j s hj hI => by simp; exact hI) (fun s c => ?_) hn (by simp)).trans (by rw [foldl_app]; rfl)
  · have : j < big := by unfold big; omega
    have e3 : fit s.length 1 = true := fit_of (by omega)
    simp only [spec_BytesToInts_L0, lt_nat, inRange_nat, decide_eq_true hj, cond_true, Int.toNat_natCast, List.length_singleton, e3, wrap_succ this, List.append_eq]
  · simp [spec_BytesToInts_L0]
def O_spec_BytesToInts : Orac := nilO
theorem ok_spec_BytesToInts : OracOk Tryz.prog sigs O_spec_BytesToInts := nilO_ok
def A_spec_BytesToInts : Ann := fun b => cond (Nat.beq b 0) ⟨[(0, false), (3, true), (4, false)], []⟩ (⟨[], []⟩)
def S_spec_BytesToInts_0 (v0_0 : (List Int)) (v0_1 : Int) (v0_2 : (List Int)) : St := [(kT 0, some (.tv (.v (.slice 5 (.int .u8)) v0_0 .no))), (kT 3, some (.tv (.v (.slice 3 (.int .i64)) [] (.own 24)))), (kT 4, some (.tv (.v (.int .i64) v0_1 .no))), (kR 24, some (.row 3 (.int .i64) v0_2))]
noncomputable def L_spec_BytesToInts_0 (n m : Nat) : St → Option Ret := loopOf tab sigs O_spec_BytesToInts A_spec_BytesToInts Tryz.f172 [((.slice 3 (.int .i64)), (.own 0))] n (fun _ => 0) 0 m
theorem b_spec_BytesToInts_0 (n m : Nat) (v0_0 : (List Int)) (v0_1 : Int) (v0_2 : (List Int)) : L_spec_BytesToInts_0 n (m + 1) (S_spec_BytesToInts_0 v0_0 v0_1 v0_2) = spec_BytesToInts_L0 (fun r0 => some [⟨(.slice 3 (.int .i64)), r0⟩]) (fun v0_0 v0_1 v0_2 => L_spec_BytesToInts_0 n m (S_spec_BytesToInts_0 v0_0 v0_1 v0_2)) v0_0 v0_1 v0_2 := by kernel_rfl
theorem a_spec_BytesToInts (n : Nat) (a0 : (List Int)) : absF tab sigs O_spec_BytesToInts A_spec_BytesToInts Tryz.f172 [((.slice 3 (.int .i64)), (.own 0))] n [.val (.slice 5 (.int .u8)) a0] = spec_BytesToInts (fun r0 => some [⟨(.slice 3 (.int .i64)), r0⟩]) (fun v0_0 v0_1 v0_2 => L_spec_BytesToInts_0 n n (S_spec_BytesToInts_0 v0_0 v0_1 v0_2)) a0 := by kernel_rfl
theorem said_spec_BytesToInts (a0 : (List Int)) (g : G.spec_BytesToInts a0 = true) : Said Tryz.prog sigs_172 172 [.val (.slice 5 (.int .u8)) a0] [⟨(.slice 3 (.int .i64)), N.spec_BytesToInts a0⟩] := said_len (T := tab) (A := A_spec_BytesToInts) tabOk ok_spec_BytesToInts tabOk.follows Tryz.func172 (by kernel_rfl) (by kernel_rfl) (fun hl => let ⟨n, hn⟩ := spec_BytesToInts_ok (ρ := Ret) (fun r0 => some [⟨(.slice 3 (.int .i64)), r0⟩]) a0 hl.1 g; ⟨n, (a_spec_BytesToInts n a0).trans (hn n (Nat.le_refl n) (fun  m v0_0 v0_1 v0_2 => L_spec_BytesToInts_0 n  m (S_spec_BytesToInts_0 v0_0 v0_1 v0_2)) (fun  m v0_0 v0_1 v0_2 => b_spec_BytesToInts_0 n  m v0_0 v0_1 v0_2))⟩)
abbrev G.spec_LabelInts (s : ByteArray) : Bool := decide (s.size ≤ 1048576)
abbrev N.spec_LabelInts (s : ByteArray) : List Int := labelInts s
def spec_LabelInts {ρ : Type} (k : (List Int) → Option ρ) (a0 : ByteArray) : Option ρ := (cond (decide ((ByteArray.size a0 : Int) ≤ 549755813888)) (cond (G.spec_BytesToInts (bytesOf a0)) (k (N.spec_BytesToInts (bytesOf a0))) none) none)
theorem spec_LabelInts_ok {ρ : Type} (k : (List Int) → Option ρ) (a0 : ByteArray) (g : G.spec_LabelInts a0 = true) : spec_LabelInts k  a0 = k (N.spec_LabelInts a0) := by
  unfold G.spec_LabelInts at g
  have h : a0.size ≤ 1048576 := of_decide_eq_true g
  have h1 : decide ((a0.size : Int) ≤ 549755813888) = true := by simp; omega
  have h2 : G.spec_BytesToInts (bytesOf a0) = true := decide_eq_true (by rw [bytesOf_length]; omega)
  show cond _ (cond _ _ none) none = _
  rw [h1, h2]
  rfl
def OP_spec_LabelInts (f0 : (List Int) → (List Int)) (g0 : (List Int) → Bool) : Orac := (orcX 172 [.val (.slice 5 (.int .u8))] (fun d => g0 d.1) (fun d => [⟨(.slice 3 (.int .i64)), f0 d.1⟩]) nilO)
def O_spec_LabelInts : Orac := OP_spec_LabelInts N.spec_BytesToInts G.spec_BytesToInts
def spec_LabelInts_P {ρ : Type} (f0 : (List Int) → (List Int)) (g0 : (List Int) → Bool) (k : (List Int) → Option ρ) (a0 : ByteArray) : Option ρ := (cond (decide ((ByteArray.size a0 : Int) ≤ 549755813888)) (cond (g0 (bytesOf a0)) (k (f0 (bytesOf a0))) none) none)
theorem ok_spec_LabelInts : OracOk Tryz.prog sigs O_spec_LabelInts := (orcX_ok rfl rfl (fun d g => said_spec_BytesToInts d.1 g) nilO_ok)
def A_spec_LabelInts : Ann := fun b => ⟨[], []⟩
theorem aP_spec_LabelInts (f0 : (List Int) → (List Int)) (g0 : (List Int) → Bool) (n : Nat) (a0 : ByteArray) : absF tab sigs (OP_spec_LabelInts f0 g0) A_spec_LabelInts Tryz.f167 [((.slice 3 (.int .i64)), (.own 0))] n [.val .str a0] = spec_LabelInts_P f0 g0 (fun r0 => some [⟨(.slice 3 (.int .i64)), r0⟩])  a0 := by kernel_rfl
theorem said_spec_LabelInts (a0 : ByteArray) (g : G.spec_LabelInts a0 = true) : Said Tryz.prog sigs_167 167 [.val .str a0] [⟨(.slice 3 (.int .i64)), N.spec_LabelInts a0⟩] := said_len (T := tab) (A := A_spec_LabelInts) tabOk ok_spec_LabelInts tabOk.follows Tryz.func167 (by kernel_rfl) (by kernel_rfl) (fun hl => ⟨0, (aP_spec_LabelInts N.spec_BytesToInts G.spec_BytesToInts 0 a0).trans (spec_LabelInts_ok (ρ := Ret) (fun r0 => some [⟨(.slice 3 (.int .i64)), r0⟩]) a0 g)⟩)
abbrev G.spec_EntryInts (e : TEntry) : Bool := decide (wE e ≤ 1048576)
abbrev N.spec_EntryInts (e : TEntry) : List Int := entryInts e
def spec_EntryInts_P_L0 {ρ : Type} (f0 : ByteArray → (List Int)) (g0 : ByteArray → Bool) (k : (List Int) → Option ρ) (L0 : Int → TEntry → (List Int) → Option ρ) (v0_0 : Int) (v0_1 : TEntry) (v0_2 : (List Int)) : Option ρ := (cond (decide (v0_0 < (List.length v0_1.2.2.2 : Int))) (cond (inRange v0_0 (List.length v0_1.2.2.2)) (cond (g0 (List.getD v0_1.2.2.2 (Int.toNat v0_0) ByteArray.empty)) (cond (fit (List.length v0_2) (List.length (f0 (List.getD v0_1.2.2.2 (Int.toNat v0_0) ByteArray.empty)))) (L0 (IntKind.wrap .i64 (v0_0 + (1 : Int))) v0_1 (List.append v0_2 (f0 (List.getD v0_1.2.2.2 (Int.toNat v0_0) ByteArray.empty)))) none) none) none) (k v0_2))
def spec_EntryInts_P {ρ : Type} (f0 : ByteArray → (List Int)) (g0 : ByteArray → Bool) (k : (List Int) → Option ρ) (L0 : Int → TEntry → (List Int) → Option ρ) (a0 : TEntry) : Option ρ := (cond (g0 a0.1) (cond (fit (List.length (f0 a0.1)) (List.length [a0.2.1, a0.2.2.1, (List.length a0.2.2.2 : Int)])) (L0 (0 : Int) a0 (List.append (f0 a0.1) [a0.2.1, a0.2.2.1, (List.length a0.2.2.2 : Int)])) none) none)
def spec_EntryInts_L0 {ρ : Type} (k : (List Int) → Option ρ) (L0 : Int → TEntry → (List Int) → Option ρ) (v0_0 : Int) (v0_1 : TEntry) (v0_2 : (List Int)) : Option ρ := spec_EntryInts_P_L0 N.spec_LabelInts G.spec_LabelInts k L0 v0_0 v0_1 v0_2
def spec_EntryInts {ρ : Type} (k : (List Int) → Option ρ) (L0 : Int → TEntry → (List Int) → Option ρ) (a0 : TEntry) : Option ρ := spec_EntryInts_P N.spec_LabelInts G.spec_LabelInts k L0 a0
theorem spec_EntryInts_ok {ρ : Type} (k : (List Int) → Option ρ) (a0 : TEntry) (l_a0 : (True ∧ (True ∧ (True ∧ lnL (fun _ => True) a0.2.2.2)))) (g : G.spec_EntryInts a0 = true) : ∃ n0, ∀ n, n0 ≤ n → ∀ (L0 : Nat → Int → TEntry → (List Int) → Option ρ) (h0 : ∀ ( m : Nat) (v0_0 : Int) (v0_1 : TEntry) (v0_2 : (List Int)), L0 (m + 1) v0_0 v0_1 v0_2 = spec_EntryInts_L0 k (L0 m) v0_0 v0_1 v0_2), spec_EntryInts k (L0 n) a0 = k (N.spec_EntryInts a0) := by
  unfold G.spec_EntryInts at g
  have hw : wE a0 ≤ 1048576 := of_decide_eq_true g
  have hw2 : a0.1.size + (a0.2.2.2.length + wsum ByteArray.size a0.2.2.2) ≤ 1048576 := hw
  have g1 : decide (a0.1.size ≤ 1048576) = true := by simp; omega
  have f1 : fit (labelInts a0.1).length 3 = true := fit_of (by rw [labelInts_len]; omega)
  refine ⟨a0.2.2.2.length + 1, fun n hn L0 h0 => ?_⟩
  show cond (decide (a0.1.size ≤ 1048576)) (cond (fit (labelInts a0.1).length 3) (L0 n 0 a0 (labelInts a0.1 ++ [a0.2.1, a0.2.2.1, (a0.2.2.2.length : Int)])) none) none = k (entryInts a0)
  rw [g1, f1]
  have key := raw_run0 (σ := List Int) (L := fun m i s => L0 m i a0 s) (R := fun i s c => spec_EntryInts_L0 k (fun i _ s => c i s) i a0 s) (fun m i s => h0 m i a0 s) a0.2.2.2.length (fun j s => s.length + wP (a0.2.2.2.drop j) ≤ 4194304) (fun j s => k (s ++ (a0.2.2.2.drop j).flatMap labelInts)) (fun j s c hj hI hc => ?_) (fun s c _ => ?_) hn (s := labelInts a0.1 ++ [a0.2.1, a0.2.2.1, (a0.2.2.2.length : Int)]) (by rw [List.drop_zero, List.length_append, labelInts_len]; unfold wP; simp; omega)
  · rw [List.drop_zero] at key
    exact key
  · have hd := drop_cons ByteArray.empty hj
    have hp : wP (a0.2.2.2.drop j) = 1 + (a0.2.2.2.getD j ByteArray.empty).size + wP (a0.2.2.2.drop (j + 1)) := by
      rw [hd]
      unfold wP
      rw [List.length_cons]
      show _ + (_ + _) = _
      omega
    have hm := wsum_mem (wt := ByteArray.size) (getD_mem (d := ByteArray.empty) hj)
    have g2 : decide ((a0.2.2.2.getD j ByteArray.empty).size ≤ 1048576) = true := by simp only [decide_eq_true_eq]; omega
    have e3 : fit s.length (labelInts (a0.2.2.2.getD j ByteArray.empty)).length = true := fit_of (by rw [labelInts_len]; omega)
    have := hc (s ++ labelInts (a0.2.2.2.getD j ByteArray.empty)) (by rw [List.length_append, labelInts_len]; omega)
    simp only [spec_EntryInts_L0, spec_EntryInts_P_L0, lt_nat, inRange_nat, decide_eq_true hj, cond_true, Int.toNat_natCast, G.spec_LabelInts, N.spec_LabelInts, g2, e3, wrap_succ (j := j) (by unfold big; omega), List.append_eq, this]
    rw [hd]
    simp
  · simp [spec_EntryInts_L0, spec_EntryInts_P_L0]
def OP_spec_EntryInts (f0 : ByteArray → (List Int)) (g0 : ByteArray → Bool) : Orac := (orcX 167 [.val .str] (fun d => g0 d.1) (fun d => [⟨(.slice 3 (.int .i64)), f0 d.1⟩]) nilO)
def O_spec_EntryInts : Orac := OP_spec_EntryInts N.spec_LabelInts G.spec_LabelInts
theorem ok_spec_EntryInts : OracOk Tryz.prog sigs O_spec_EntryInts := (orcX_ok rfl rfl (fun d g => said_spec_LabelInts d.1 g) nilO_ok)
def A_spec_EntryInts : Ann := fun b => cond (Nat.beq b 0) ⟨[(1, false), (3, true), (4, false)], [(1, false)]⟩ (⟨[], []⟩)
def S_spec_EntryInts_0 (v0_0 : Int) (v0_1 : TEntry) (v0_2 : (List Int)) : St := [(kT 1, some (.tv (.box 1 []))), (kT 3, some (.tv (.v (.slice 3 (.int .i64)) [] (.own 24)))), (kT 4, some (.tv (.v (.int .i64) v0_0 .no))), (kB 1, some (.box TyEntry v0_1 .no)), (kR 24, some (.row 3 (.int .i64) v0_2))]
noncomputable def L_P_spec_EntryInts_0 (f0 : ByteArray → (List Int)) (g0 : ByteArray → Bool) (n m : Nat) : St → Option Ret := loopOf tab sigs (OP_spec_EntryInts f0 g0) A_spec_EntryInts Tryz.f150 [((.slice 3 (.int .i64)), (.own 0))] n (fun _ => 0) 0 m
theorem bP_spec_EntryInts_0 (f0 : ByteArray → (List Int)) (g0 : ByteArray → Bool) (n m : Nat) (v0_0 : Int) (v0_1 : TEntry) (v0_2 : (List Int)) : L_P_spec_EntryInts_0 f0 g0 n (m + 1) (S_spec_EntryInts_0 v0_0 v0_1 v0_2) = spec_EntryInts_P_L0 f0 g0 (fun r0 => some [⟨(.slice 3 (.int .i64)), r0⟩]) (fun v0_0 v0_1 v0_2 => L_P_spec_EntryInts_0 f0 g0 n m (S_spec_EntryInts_0 v0_0 v0_1 v0_2)) v0_0 v0_1 v0_2 := by kernel_rfl
theorem aP_spec_EntryInts (f0 : ByteArray → (List Int)) (g0 : ByteArray → Bool) (n : Nat) (a0 : TEntry) : absF tab sigs (OP_spec_EntryInts f0 g0) A_spec_EntryInts Tryz.f150 [((.slice 3 (.int .i64)), (.own 0))] n [.val TyEntry a0] = spec_EntryInts_P f0 g0 (fun r0 => some [⟨(.slice 3 (.int .i64)), r0⟩]) (fun v0_0 v0_1 v0_2 => L_P_spec_EntryInts_0 f0 g0 n n (S_spec_EntryInts_0 v0_0 v0_1 v0_2)) a0 := by kernel_rfl
theorem said_spec_EntryInts (a0 : TEntry) (g : G.spec_EntryInts a0 = true) : Said Tryz.prog sigs_150 150 [.val TyEntry a0] [⟨(.slice 3 (.int .i64)), N.spec_EntryInts a0⟩] := said_len (T := tab) (A := A_spec_EntryInts) tabOk ok_spec_EntryInts tabOk.follows Tryz.func150 (by kernel_rfl) (by kernel_rfl) (fun hl => let ⟨n, hn⟩ := spec_EntryInts_ok (ρ := Ret) (fun r0 => some [⟨(.slice 3 (.int .i64)), r0⟩]) a0 hl.1 g; ⟨n, (aP_spec_EntryInts N.spec_LabelInts G.spec_LabelInts n a0).trans (hn n (Nat.le_refl n) (fun  m v0_0 v0_1 v0_2 => L_P_spec_EntryInts_0 N.spec_LabelInts G.spec_LabelInts n  m (S_spec_EntryInts_0 v0_0 v0_1 v0_2)) (fun  m v0_0 v0_1 v0_2 => bP_spec_EntryInts_0 N.spec_LabelInts G.spec_LabelInts n  m v0_0 v0_1 v0_2))⟩)
abbrev G.spec_LeafOf (e : TEntry) : Bool := decide (wE e ≤ 1048576)
abbrev N.spec_LeafOf (e : TEntry) : Int := leafOf e
def spec_LeafOf {ρ : Type} (k : Int → Option ρ) (a0 : TEntry) : Option ρ := (cond (G.spec_EntryInts a0) (cond (fit (List.length [(227 : Int)]) (List.length (N.spec_EntryInts a0))) (k (N.spec_Hash (List.append [(227 : Int)] (N.spec_EntryInts a0)))) none) none)
theorem spec_LeafOf_ok {ρ : Type} (k : Int → Option ρ) (a0 : TEntry) (l_a0 : (True ∧ (True ∧ (True ∧ lnL (fun _ => True) a0.2.2.2)))) (g : G.spec_LeafOf a0 = true) : spec_LeafOf k  a0 = k (N.spec_LeafOf a0) := by
  unfold G.spec_LeafOf at g
  have hw : wE a0 ≤ 1048576 := of_decide_eq_true g
  have f1 : fit 1 (entryInts a0).length = true := fit_of (by rw [entryInts_len]; omega)
  show cond (decide (wE a0 ≤ 1048576)) (cond (fit 1 (entryInts a0).length) _ none) none = _
  rw [g, f1]
  rfl
def OP_spec_LeafOf (f0 : TEntry → (List Int)) (g0 : TEntry → Bool) (f1 : (List Int) → Int) : Orac := (orcX 77 [.val (.slice 3 (.int .i64))] (fun d => true) (fun d => [⟨(.int .i64), f1 d.1⟩]) (orcX 150 [.val TyEntry] (fun d => g0 d.1) (fun d => [⟨(.slice 3 (.int .i64)), f0 d.1⟩]) nilO))
def O_spec_LeafOf : Orac := OP_spec_LeafOf N.spec_EntryInts G.spec_EntryInts N.spec_Hash
def spec_LeafOf_P {ρ : Type} (f0 : TEntry → (List Int)) (g0 : TEntry → Bool) (f1 : (List Int) → Int) (k : Int → Option ρ) (a0 : TEntry) : Option ρ := (cond (g0 a0) (cond (fit (List.length [(227 : Int)]) (List.length (f0 a0))) (k (f1 (List.append [(227 : Int)] (f0 a0)))) none) none)
theorem ok_spec_LeafOf : OracOk Tryz.prog sigs O_spec_LeafOf := (orcX_ok rfl rfl (fun d g => said_spec_Hash d.1) (orcX_ok rfl rfl (fun d g => said_spec_EntryInts d.1 g) nilO_ok))
def A_spec_LeafOf : Ann := fun b => ⟨[], []⟩
theorem aP_spec_LeafOf (f0 : TEntry → (List Int)) (g0 : TEntry → Bool) (f1 : (List Int) → Int) (n : Nat) (a0 : TEntry) : absF tab sigs (OP_spec_LeafOf f0 g0 f1) A_spec_LeafOf Tryz.f109 [((.int .i64), .no)] n [.val TyEntry a0] = spec_LeafOf_P f0 g0 f1 (fun r0 => some [⟨(.int .i64), r0⟩])  a0 := by kernel_rfl
theorem said_spec_LeafOf (a0 : TEntry) (g : G.spec_LeafOf a0 = true) : Said Tryz.prog sigs_109 109 [.val TyEntry a0] [⟨(.int .i64), N.spec_LeafOf a0⟩] := said_len (T := tab) (A := A_spec_LeafOf) tabOk ok_spec_LeafOf tabOk.follows Tryz.func109 (by kernel_rfl) (by kernel_rfl) (fun hl => ⟨0, (aP_spec_LeafOf N.spec_EntryInts G.spec_EntryInts N.spec_Hash 0 a0).trans (spec_LeafOf_ok (ρ := Ret) (fun r0 => some [⟨(.int .i64), r0⟩]) a0 hl.1 g)⟩)
abbrev G.spec_LeavesOf (l : List TEntry) : Bool := decide (wEs l ≤ 1048576)
abbrev N.spec_LeavesOf (l : List TEntry) : List Int := l.map leafOf
def spec_LeavesOf_P_L0 {ρ : Type} (f0 : TEntry → Int) (g0 : TEntry → Bool) (k : (List Int) → Option ρ) (L0 : (List TEntry) → Int → (List Int) → Option ρ) (v0_0 : (List TEntry)) (v0_1 : Int) (v0_2 : (List Int)) : Option ρ := (cond (decide (v0_1 < (List.length v0_0 : Int))) (cond (inRange v0_1 (List.length v0_0)) (cond (g0 (List.getD v0_0 (Int.toNat v0_1) (ByteArray.empty, ((0 : Int), ((0 : Int), []))))) (cond (fit (List.length v0_2) (List.length [(f0 (List.getD v0_0 (Int.toNat v0_1) (ByteArray.empty, ((0 : Int), ((0 : Int), [])))))])) (L0 v0_0 (IntKind.wrap .i64 (v0_1 + (1 : Int))) (List.append v0_2 [(f0 (List.getD v0_0 (Int.toNat v0_1) (ByteArray.empty, ((0 : Int), ((0 : Int), [])))))])) none) none) none) (k v0_2))
def spec_LeavesOf_P {ρ : Type} (f0 : TEntry → Int) (g0 : TEntry → Bool) (k : (List Int) → Option ρ) (L0 : (List TEntry) → Int → (List Int) → Option ρ) (a0 : (List TEntry)) : Option ρ := (L0 a0 (0 : Int) ([] : (List Int)))
def spec_LeavesOf_L0 {ρ : Type} (k : (List Int) → Option ρ) (L0 : (List TEntry) → Int → (List Int) → Option ρ) (v0_0 : (List TEntry)) (v0_1 : Int) (v0_2 : (List Int)) : Option ρ := spec_LeavesOf_P_L0 N.spec_LeafOf G.spec_LeafOf k L0 v0_0 v0_1 v0_2
def spec_LeavesOf {ρ : Type} (k : (List Int) → Option ρ) (L0 : (List TEntry) → Int → (List Int) → Option ρ) (a0 : (List TEntry)) : Option ρ := spec_LeavesOf_P N.spec_LeafOf G.spec_LeafOf k L0 a0
theorem spec_LeavesOf_ok {ρ : Type} (k : (List Int) → Option ρ) (a0 : (List TEntry)) (l_a0 : lnL (fun y => (True ∧ (True ∧ (True ∧ lnL (fun _ => True) y.2.2.2)))) a0) (g : G.spec_LeavesOf a0 = true) : ∃ n0, ∀ n, n0 ≤ n → ∀ (L0 : Nat → (List TEntry) → Int → (List Int) → Option ρ) (h0 : ∀ ( m : Nat) (v0_0 : (List TEntry)) (v0_1 : Int) (v0_2 : (List Int)), L0 (m + 1) v0_0 v0_1 v0_2 = spec_LeavesOf_L0 k (L0 m) v0_0 v0_1 v0_2), spec_LeavesOf k (L0 n) a0 = k (N.spec_LeavesOf a0) := by
  unfold G.spec_LeavesOf at g
  have hw : wEs a0 ≤ 1048576 := of_decide_eq_true g
  have hl : a0.length ≤ 1048576 := by unfold wEs at hw; omega
  refine ⟨a0.length + 1, fun n hn L0 h0 => ?_⟩
  refine raw_map (a := a0) (ByteArray.empty, (0, (0, []))) leafOf 1048576 (k := k) (L := fun m i out => L0 m a0 i out) (R := fun i out c => spec_LeavesOf_L0 k (fun _ i out => c i out) a0 i out) (fun m i s => h0 m a0 i s) (fun j out c hj ho => ?_) (fun out c => ?_) hl hn
  · have hm := wEs_mem (getD_mem (d := (ByteArray.empty, (0, (0, [])))) hj)
    have g2 : decide (wE (a0.getD j (ByteArray.empty, (0, (0, [])))) ≤ 1048576) = true := by simp only [decide_eq_true_eq]; omega
    have e3 : fit out.length 1 = true := fit_of (by omega)
    simp only [spec_LeavesOf_L0, spec_LeavesOf_P_L0, lt_nat, inRange_nat, decide_eq_true hj, cond_true, Int.toNat_natCast, G.spec_LeafOf, g2, List.length_singleton, e3, wrap_succ (j := j) (by unfold big; omega), List.append_eq]
  · simp [spec_LeavesOf_L0, spec_LeavesOf_P_L0]
def OP_spec_LeavesOf (f0 : TEntry → Int) (g0 : TEntry → Bool) : Orac := (orcX 109 [.val TyEntry] (fun d => g0 d.1) (fun d => [⟨(.int .i64), f0 d.1⟩]) nilO)
def O_spec_LeavesOf : Orac := OP_spec_LeavesOf N.spec_LeafOf G.spec_LeafOf
theorem ok_spec_LeavesOf : OracOk Tryz.prog sigs O_spec_LeavesOf := (orcX_ok rfl rfl (fun d g => said_spec_LeafOf d.1 g) nilO_ok)
def A_spec_LeavesOf : Ann := fun b => cond (Nat.beq b 0) ⟨[(0, false), (3, true), (4, false)], []⟩ (⟨[], []⟩)
def S_spec_LeavesOf_0 (v0_0 : (List TEntry)) (v0_1 : Int) (v0_2 : (List Int)) : St := [(kT 0, some (.tv (.v (.slice 29 TyEntry) v0_0 .no))), (kT 3, some (.tv (.v (.slice 3 (.int .i64)) [] (.own 24)))), (kT 4, some (.tv (.v (.int .i64) v0_1 .no))), (kR 24, some (.row 3 (.int .i64) v0_2))]
noncomputable def L_P_spec_LeavesOf_0 (f0 : TEntry → Int) (g0 : TEntry → Bool) (n m : Nat) : St → Option Ret := loopOf tab sigs (OP_spec_LeavesOf f0 g0) A_spec_LeavesOf Tryz.f88 [((.slice 3 (.int .i64)), (.own 0))] n (fun _ => 0) 0 m
theorem bP_spec_LeavesOf_0 (f0 : TEntry → Int) (g0 : TEntry → Bool) (n m : Nat) (v0_0 : (List TEntry)) (v0_1 : Int) (v0_2 : (List Int)) : L_P_spec_LeavesOf_0 f0 g0 n (m + 1) (S_spec_LeavesOf_0 v0_0 v0_1 v0_2) = spec_LeavesOf_P_L0 f0 g0 (fun r0 => some [⟨(.slice 3 (.int .i64)), r0⟩]) (fun v0_0 v0_1 v0_2 => L_P_spec_LeavesOf_0 f0 g0 n m (S_spec_LeavesOf_0 v0_0 v0_1 v0_2)) v0_0 v0_1 v0_2 := by kernel_rfl
theorem aP_spec_LeavesOf (f0 : TEntry → Int) (g0 : TEntry → Bool) (n : Nat) (a0 : (List TEntry)) : absF tab sigs (OP_spec_LeavesOf f0 g0) A_spec_LeavesOf Tryz.f88 [((.slice 3 (.int .i64)), (.own 0))] n [.val (.slice 29 TyEntry) a0] = spec_LeavesOf_P f0 g0 (fun r0 => some [⟨(.slice 3 (.int .i64)), r0⟩]) (fun v0_0 v0_1 v0_2 => L_P_spec_LeavesOf_0 f0 g0 n n (S_spec_LeavesOf_0 v0_0 v0_1 v0_2)) a0 := by kernel_rfl
theorem said_spec_LeavesOf (a0 : (List TEntry)) (g : G.spec_LeavesOf a0 = true) : Said Tryz.prog sigs_88 88 [.val (.slice 29 TyEntry) a0] [⟨(.slice 3 (.int .i64)), N.spec_LeavesOf a0⟩] := said_len (T := tab) (A := A_spec_LeavesOf) tabOk ok_spec_LeavesOf tabOk.follows Tryz.func88 (by kernel_rfl) (by kernel_rfl) (fun hl => let ⟨n, hn⟩ := spec_LeavesOf_ok (ρ := Ret) (fun r0 => some [⟨(.slice 3 (.int .i64)), r0⟩]) a0 hl.1 g; ⟨n, (aP_spec_LeavesOf N.spec_LeafOf G.spec_LeafOf n a0).trans (hn n (Nat.le_refl n) (fun  m v0_0 v0_1 v0_2 => L_P_spec_LeavesOf_0 N.spec_LeafOf G.spec_LeafOf n  m (S_spec_LeavesOf_0 v0_0 v0_1 v0_2)) (fun  m v0_0 v0_1 v0_2 => bP_spec_LeavesOf_0 N.spec_LeafOf G.spec_LeafOf n  m v0_0 v0_1 v0_2))⟩)
abbrev N.spec_l10Root (n top : Int) : Int := rootFrom n top
def spec_l10Root {ρ : Type} (k : Int → Option ρ) (a0 : Int) (a1 : Int) : Option ρ := (k (N.spec_Hash [(231 : Int), a0, a1]))
theorem spec_l10Root_ok {ρ : Type} (k : Int → Option ρ) (a0 : Int) (a1 : Int) : spec_l10Root k  a0 a1 = k (N.spec_l10Root a0 a1) := by
  rfl
def OP_spec_l10Root (f0 : (List Int) → Int) : Orac := (orcX 77 [.val (.slice 3 (.int .i64))] (fun d => true) (fun d => [⟨(.int .i64), f0 d.1⟩]) nilO)
def O_spec_l10Root : Orac := OP_spec_l10Root N.spec_Hash
def spec_l10Root_P {ρ : Type} (f0 : (List Int) → Int) (k : Int → Option ρ) (a0 : Int) (a1 : Int) : Option ρ := (k (f0 [(231 : Int), a0, a1]))
theorem ok_spec_l10Root : OracOk Tryz.prog sigs O_spec_l10Root := (orcX_ok rfl rfl (fun d g => said_spec_Hash d.1) nilO_ok)
def A_spec_l10Root : Ann := fun b => ⟨[], []⟩
theorem aP_spec_l10Root (f0 : (List Int) → Int) (n : Nat) (a0 : Int) (a1 : Int) : absF tab sigs (OP_spec_l10Root f0) A_spec_l10Root Tryz.f103 [((.int .i64), .no)] n [.val (.int .i64) a0, .val (.int .i64) a1] = spec_l10Root_P f0 (fun r0 => some [⟨(.int .i64), r0⟩])  a0 a1 := by kernel_rfl
theorem said_spec_l10Root (a0 : Int) (a1 : Int) : Said Tryz.prog sigs_103 103 [.val (.int .i64) a0, .val (.int .i64) a1] [⟨(.int .i64), N.spec_l10Root a0 a1⟩] := said_len (T := tab) (A := A_spec_l10Root) tabOk ok_spec_l10Root tabOk.follows Tryz.func103 (by kernel_rfl) (by kernel_rfl) (fun hl => ⟨0, (aP_spec_l10Root N.spec_Hash 0 a0 a1).trans (spec_l10Root_ok (ρ := Ret) (fun r0 => some [⟨(.int .i64), r0⟩]) a0 a1)⟩)
abbrev G.spec_RootOf (l : List TEntry) : Bool := decide (wEs l ≤ 1048576)
abbrev N.spec_RootOf (l : List TEntry) : Int := rootOf l
def spec_RootOf {ρ : Type} (k : Int → Option ρ) (a0 : (List TEntry)) : Option ρ := (cond (G.spec_LeavesOf a0) (cond (G.spec_TopOf (N.spec_LeavesOf a0)) (k (N.spec_l10Root (List.length a0 : Int) (N.spec_TopOf (N.spec_LeavesOf a0)))) none) none)
theorem spec_RootOf_ok {ρ : Type} (k : Int → Option ρ) (a0 : (List TEntry)) (l_a0 : lnL (fun y => (True ∧ (True ∧ (True ∧ lnL (fun _ => True) y.2.2.2)))) a0) (g : G.spec_RootOf a0 = true) : spec_RootOf k  a0 = k (N.spec_RootOf a0) := by
  unfold G.spec_RootOf at g
  have hw : wEs a0 ≤ 1048576 := of_decide_eq_true g
  have hl : decide ((a0.map leafOf).length ≤ 1048576) = true := by unfold wEs at hw; simp; omega
  show cond (decide (wEs a0 ≤ 1048576)) (cond (decide ((a0.map leafOf).length ≤ 1048576)) _ none) none = _
  rw [g, hl]
  rfl
def OP_spec_RootOf (f0 : (List TEntry) → (List Int)) (g0 : (List TEntry) → Bool) (f1 : (List Int) → Int) (g1 : (List Int) → Bool) (f2 : Int → Int → Int) : Orac := (orcX 103 [.val (.int .i64), .val (.int .i64)] (fun d => true) (fun d => [⟨(.int .i64), f2 d.1 d.2.1⟩]) (orcX 104 [.val (.slice 3 (.int .i64))] (fun d => g1 d.1) (fun d => [⟨(.int .i64), f1 d.1⟩]) (orcX 88 [.val (.slice 29 TyEntry)] (fun d => g0 d.1) (fun d => [⟨(.slice 3 (.int .i64)), f0 d.1⟩]) nilO)))
def O_spec_RootOf : Orac := OP_spec_RootOf N.spec_LeavesOf G.spec_LeavesOf N.spec_TopOf G.spec_TopOf N.spec_l10Root
def spec_RootOf_P {ρ : Type} (f0 : (List TEntry) → (List Int)) (g0 : (List TEntry) → Bool) (f1 : (List Int) → Int) (g1 : (List Int) → Bool) (f2 : Int → Int → Int) (k : Int → Option ρ) (a0 : (List TEntry)) : Option ρ := (cond (g0 a0) (cond (g1 (f0 a0)) (k (f2 (List.length a0 : Int) (f1 (f0 a0)))) none) none)
theorem ok_spec_RootOf : OracOk Tryz.prog sigs O_spec_RootOf := (orcX_ok rfl rfl (fun d g => said_spec_l10Root d.1 d.2.1) (orcX_ok rfl rfl (fun d g => said_spec_TopOf d.1 g) (orcX_ok rfl rfl (fun d g => said_spec_LeavesOf d.1 g) nilO_ok)))
def A_spec_RootOf : Ann := fun b => ⟨[], []⟩
theorem aP_spec_RootOf (f0 : (List TEntry) → (List Int)) (g0 : (List TEntry) → Bool) (f1 : (List Int) → Int) (g1 : (List Int) → Bool) (f2 : Int → Int → Int) (n : Nat) (a0 : (List TEntry)) : absF tab sigs (OP_spec_RootOf f0 g0 f1 g1 f2) A_spec_RootOf Tryz.f52 [((.int .i64), .no)] n [.val (.slice 29 TyEntry) a0] = spec_RootOf_P f0 g0 f1 g1 f2 (fun r0 => some [⟨(.int .i64), r0⟩])  a0 := by kernel_rfl
theorem said_spec_RootOf (a0 : (List TEntry)) (g : G.spec_RootOf a0 = true) : Said Tryz.prog sigs_52 52 [.val (.slice 29 TyEntry) a0] [⟨(.int .i64), N.spec_RootOf a0⟩] := said_len (T := tab) (A := A_spec_RootOf) tabOk ok_spec_RootOf tabOk.follows Tryz.func52 (by kernel_rfl) (by kernel_rfl) (fun hl => ⟨0, (aP_spec_RootOf N.spec_LeavesOf G.spec_LeavesOf N.spec_TopOf G.spec_TopOf N.spec_l10Root 0 a0).trans (spec_RootOf_ok (ρ := Ret) (fun r0 => some [⟨(.int .i64), r0⟩]) a0 hl.1 g)⟩)
abbrev G.spec_l6Copy (a : TKeys) : Bool := decide (wK a ≤ 1048576)
abbrev N.spec_l6Copy (a : TKeys) : TKeys := a
def spec_l6Copy {ρ : Type} (k : TKeys → Option ρ) (a0 : TKeys) : Option ρ := (cond (fit (List.length ([] : (List Int))) (List.length a0.1)) (k ((List.append ([] : (List Int)) a0.1), a0.2)) none)
theorem spec_l6Copy_ok {ρ : Type} (k : TKeys → Option ρ) (a0 : TKeys) (l_a0 : (lnL (fun _ => True) a0.1 ∧ True)) (g : G.spec_l6Copy a0 = true) : spec_l6Copy k  a0 = k (N.spec_l6Copy a0) := by
  unfold G.spec_l6Copy at g
  have h : wK a0 ≤ 1048576 := of_decide_eq_true g
  have h1 : fit (List.length ([] : List Int)) (List.length a0.1) = true := fit_of (by unfold wK at h; simp; omega)
  unfold spec_l6Copy
  rw [h1]
  rfl
def O_spec_l6Copy : Orac := nilO
theorem ok_spec_l6Copy : OracOk Tryz.prog sigs O_spec_l6Copy := nilO_ok
def A_spec_l6Copy : Ann := fun b => ⟨[], []⟩
theorem a_spec_l6Copy (n : Nat) (a0 : TKeys) : absF tab sigs O_spec_l6Copy A_spec_l6Copy Tryz.f64 [((.pair (.slice 3 (.int .i64)) (.int .i64)), (.pair (.own 0) .no))] n [.val (.pair (.slice 3 (.int .i64)) (.int .i64)) a0] = spec_l6Copy (fun r0 => some [⟨(.pair (.slice 3 (.int .i64)) (.int .i64)), r0⟩])  a0 := by kernel_rfl
theorem said_spec_l6Copy (a0 : TKeys) (g : G.spec_l6Copy a0 = true) : Said Tryz.prog sigs_64 64 [.val (.pair (.slice 3 (.int .i64)) (.int .i64)) a0] [⟨(.pair (.slice 3 (.int .i64)) (.int .i64)), N.spec_l6Copy a0⟩] := said_len (T := tab) (A := A_spec_l6Copy) tabOk ok_spec_l6Copy tabOk.follows Tryz.func64 (by kernel_rfl) (by kernel_rfl) (fun hl => ⟨0, (a_spec_l6Copy 0 a0).trans (spec_l6Copy_ok (ρ := Ret) (fun r0 => some [⟨(.pair (.slice 3 (.int .i64)) (.int .i64)), r0⟩]) a0 hl.1 g)⟩)
abbrev N.spec_IsKeys (k : TKeys) : Bool := isKeys k
def spec_IsKeys_P_L0 {ρ : Type} (f0 : Int → Int → Int → Bool) (k : Bool → Option ρ) (L0 : Int → TKeys → Option ρ) (v0_0 : Int) (v0_1 : TKeys) : Option ρ := (cond (decide (v0_0 < (List.length v0_1.1 : Int))) (cond (inRange v0_0 (List.length v0_1.1)) (cond (!(f0 (List.getD v0_1.1 (Int.toNat v0_0) (0 : Int)) (1 : Int) (99 : Int))) (k false) (cond (decide (v0_0 > (0 : Int))) (cond (inRange (IntKind.wrap .i64 (v0_0 - (1 : Int))) (List.length v0_1.1)) (cond (inRange v0_0 (List.length v0_1.1)) (cond (decide ((List.getD v0_1.1 (Int.toNat (IntKind.wrap .i64 (v0_0 - (1 : Int)))) (0 : Int)) ≥ (List.getD v0_1.1 (Int.toNat v0_0) (0 : Int)))) (k false) (L0 (IntKind.wrap .i64 (v0_0 + (1 : Int))) v0_1)) none) none) (L0 (IntKind.wrap .i64 (v0_0 + (1 : Int))) v0_1))) none) (cond (f0 (List.length v0_1.1 : Int) (1 : Int) (4 : Int)) (k (f0 v0_1.2 (1 : Int) (List.length v0_1.1 : Int))) (k false)))
def spec_IsKeys_P {ρ : Type} (f0 : Int → Int → Int → Bool) (k : Bool → Option ρ) (L0 : Int → TKeys → Option ρ) (a0 : TKeys) : Option ρ := (L0 (0 : Int) a0)
def spec_IsKeys_L0 {ρ : Type} (k : Bool → Option ρ) (L0 : Int → TKeys → Option ρ) (v0_0 : Int) (v0_1 : TKeys) : Option ρ := spec_IsKeys_P_L0 N.spec_l1In k L0 v0_0 v0_1
def spec_IsKeys {ρ : Type} (k : Bool → Option ρ) (L0 : Int → TKeys → Option ρ) (a0 : TKeys) : Option ρ := spec_IsKeys_P N.spec_l1In k L0 a0
theorem spec_IsKeys_ok {ρ : Type} (k : Bool → Option ρ) (a0 : TKeys) (l_a0 : (lnL (fun _ => True) a0.1 ∧ True)) : ∃ n0, ∀ n, n0 ≤ n → ∀ (L0 : Nat → Int → TKeys → Option ρ) (h0 : ∀ ( m : Nat) (v0_0 : Int) (v0_1 : TKeys), L0 (m + 1) v0_0 v0_1 = spec_IsKeys_L0 k (L0 m) v0_0 v0_1), spec_IsKeys k (L0 n) a0 = k (N.spec_IsKeys a0) := by
  refine ⟨a0.1.length + 1, fun n hn L0 h0 => ?_⟩
  have hb : a0.1.length ≤ 9223372036854775807 := l_a0.1.1
  have hrun := raw_run0 (σ := Unit) (s := ()) (L := fun m i _ => L0 m i a0) (R := fun i _ c => spec_IsKeys_L0 k (fun i _ => c i ()) i a0) (fun m i s => h0 m i a0) a0.1.length (fun _ _ => True) (fun j _ => cond (keysFrom a0.1 (a0.1.length - j) j) (k (inR a0.1.length 1 4 && inR a0.2 1 a0.1.length)) (k false)) (fun j s c hj _ hc => ?_) (fun s c _ => ?_) hn trivial
  · refine hrun.trans ?_
    show _ = k (isKeys a0)
    rw [Nat.sub_zero, isKeys_eq]
    cases keysFrom a0.1 a0.1.length 0 <;> simp
  · obtain ⟨m, hm⟩ : ∃ m, a0.1.length - j = m + 1 := ⟨a0.1.length - j - 1, by omega⟩
    have hm2 : a0.1.length - (j + 1) = m := by omega
    have hc' := hc () trivial
    rw [hm2] at hc'
    rw [hm]
    unfold keysFrom
    by_cases h0j : j = 0
    · subst h0j
      simp only [spec_IsKeys_L0, spec_IsKeys_P_L0, lt_nat, inRange_nat, decide_eq_true hj, cond_true, Int.toNat_natCast, N.spec_l1In, wrap_succ (j := 0) (by unfold big; omega), hc', isKey]
      cases inR (a0.1.getD 0 0) 1 99 <;> simp
    · have e1 : decide ((j : Int) > 0) = true := by simp; omega
      have e2 : IntKind.wrap .i64 ((j : Int) - 1) = ((j - 1 : Nat) : Int) := by rw [wrap_id (by omega) (by omega)]; omega
      have e3 : j - 1 < a0.1.length := by omega
      have e4 : decide (a0.1.getD (j - 1) 0 ≥ a0.1.getD j 0) = !decide (a0.1.getD (j - 1) 0 < a0.1.getD j 0) := by rw [← decide_not]; simp
      simp only [spec_IsKeys_L0, spec_IsKeys_P_L0, lt_nat, inRange_nat, decide_eq_true hj, cond_true, Int.toNat_natCast, N.spec_l1In, e1, e2, e4, decide_eq_true e3, wrap_succ (j := j) (by unfold big; omega), hc', decide_eq_false h0j, isKey]
      cases inR (a0.1.getD j 0) 1 99 <;> cases decide (a0.1.getD (j - 1) 0 < a0.1.getD j 0) <;> simp
  · rw [Nat.sub_self]
    simp only [spec_IsKeys_L0, spec_IsKeys_P_L0, keysFrom, lt_nat, Nat.lt_irrefl, decide_false, cond_false, cond_true, N.spec_l1In]
    cases inR (a0.1.length : Int) 1 4 <;> rfl
def OP_spec_IsKeys (f0 : Int → Int → Int → Bool) : Orac := (orcX 54 [.val (.int .i64), .val (.int .i64), .val (.int .i64)] (fun d => true) (fun d => [⟨.bool, f0 d.1 d.2.1 d.2.2.1⟩]) nilO)
def O_spec_IsKeys : Orac := OP_spec_IsKeys N.spec_l1In
theorem ok_spec_IsKeys : OracOk Tryz.prog sigs O_spec_IsKeys := (orcX_ok rfl rfl (fun d g => said_spec_l1In d.1 d.2.1 d.2.2.1) nilO_ok)
def A_spec_IsKeys : Ann := fun b => cond (Nat.beq b 0) ⟨[(1, false), (3, false)], [(1, false)]⟩ (⟨[], []⟩)
def S_spec_IsKeys_0 (v0_0 : Int) (v0_1 : TKeys) : St := [(kT 1, some (.tv (.box 1 []))), (kT 3, some (.tv (.v (.int .i64) v0_0 .no))), (kB 1, some (.box (.pair (.slice 3 (.int .i64)) (.int .i64)) v0_1 .no))]
noncomputable def L_P_spec_IsKeys_0 (f0 : Int → Int → Int → Bool) (n m : Nat) : St → Option Ret := loopOf tab sigs (OP_spec_IsKeys f0) A_spec_IsKeys Tryz.f120 [(.bool, .no)] n (fun _ => 0) 0 m
theorem bP_spec_IsKeys_0 (f0 : Int → Int → Int → Bool) (n m : Nat) (v0_0 : Int) (v0_1 : TKeys) : L_P_spec_IsKeys_0 f0 n (m + 1) (S_spec_IsKeys_0 v0_0 v0_1) = spec_IsKeys_P_L0 f0 (fun r0 => some [⟨.bool, r0⟩]) (fun v0_0 v0_1 => L_P_spec_IsKeys_0 f0 n m (S_spec_IsKeys_0 v0_0 v0_1)) v0_0 v0_1 := by kernel_rfl
theorem aP_spec_IsKeys (f0 : Int → Int → Int → Bool) (n : Nat) (a0 : TKeys) : absF tab sigs (OP_spec_IsKeys f0) A_spec_IsKeys Tryz.f120 [(.bool, .no)] n [.val (.pair (.slice 3 (.int .i64)) (.int .i64)) a0] = spec_IsKeys_P f0 (fun r0 => some [⟨.bool, r0⟩]) (fun v0_0 v0_1 => L_P_spec_IsKeys_0 f0 n n (S_spec_IsKeys_0 v0_0 v0_1)) a0 := by kernel_rfl
theorem said_spec_IsKeys (a0 : TKeys) : Said Tryz.prog sigs_120 120 [.val (.pair (.slice 3 (.int .i64)) (.int .i64)) a0] [⟨.bool, N.spec_IsKeys a0⟩] := said_len (T := tab) (A := A_spec_IsKeys) tabOk ok_spec_IsKeys tabOk.follows Tryz.func120 (by kernel_rfl) (by kernel_rfl) (fun hl => let ⟨n, hn⟩ := spec_IsKeys_ok (ρ := Ret) (fun r0 => some [⟨.bool, r0⟩]) a0 hl.1; ⟨n, (aP_spec_IsKeys N.spec_l1In n a0).trans (hn n (Nat.le_refl n) (fun  m v0_0 v0_1 => L_P_spec_IsKeys_0 N.spec_l1In n  m (S_spec_IsKeys_0 v0_0 v0_1)) (fun  m v0_0 v0_1 => bP_spec_IsKeys_0 N.spec_l1In n  m v0_0 v0_1))⟩)
abbrev N.spec_NoKeys (k : TKeys) : Bool := noKeys k
def spec_NoKeys {ρ : Type} (k : Bool → Option ρ) (a0 : TKeys) : Option ρ := (cond (a0.2 == (0 : Int)) (k ((List.length a0.1 : Int) == (0 : Int))) (k false))
theorem spec_NoKeys_ok {ρ : Type} (k : Bool → Option ρ) (a0 : TKeys) (l_a0 : (lnL (fun _ => True) a0.1 ∧ True)) : spec_NoKeys k  a0 = k (N.spec_NoKeys a0) := by
  simp only [spec_NoKeys, N.spec_NoKeys, noKeys]
  cases a0.2 == 0 <;> rfl
def O_spec_NoKeys : Orac := nilO
theorem ok_spec_NoKeys : OracOk Tryz.prog sigs O_spec_NoKeys := nilO_ok
def A_spec_NoKeys : Ann := fun b => ⟨[], []⟩
theorem a_spec_NoKeys (n : Nat) (a0 : TKeys) : absF tab sigs O_spec_NoKeys A_spec_NoKeys Tryz.f121 [(.bool, .no)] n [.val (.pair (.slice 3 (.int .i64)) (.int .i64)) a0] = spec_NoKeys (fun r0 => some [⟨.bool, r0⟩])  a0 := by kernel_rfl
theorem said_spec_NoKeys (a0 : TKeys) : Said Tryz.prog sigs_121 121 [.val (.pair (.slice 3 (.int .i64)) (.int .i64)) a0] [⟨.bool, N.spec_NoKeys a0⟩] := said_len (T := tab) (A := A_spec_NoKeys) tabOk ok_spec_NoKeys tabOk.follows Tryz.func121 (by kernel_rfl) (by kernel_rfl) (fun hl => ⟨0, (a_spec_NoKeys 0 a0).trans (spec_NoKeys_ok (ρ := Ret) (fun r0 => some [⟨.bool, r0⟩]) a0 hl.1)⟩)
abbrev N.spec_IsHead (h : THead) : Bool := isHead h
def spec_IsHead_P {ρ : Type} (f0 : Int → Int → Int → Bool) (f1 : TKeys → Bool) (f2 : TKeys → Bool) (k : Bool → Option ρ) (a0 : THead) : Option ρ := (cond (!(f0 a0.1 (0 : Int) (2147483646 : Int))) (k false) (cond (!(f0 a0.2.2.2.2.2.2.1 (0 : Int) (2147483646 : Int))) (k false) (cond (!(f0 a0.2.2.2.2.2.2.2.1 (0 : Int) (2147483646 : Int))) (k false) (cond (!(f0 a0.2.1 (0 : Int) (200 : Int))) (k false) (cond (!(f0 a0.2.2.1 (1 : Int) (3 : Int))) (k false) (cond (!(f0 a0.2.2.2.1 (0 : Int) (100000 : Int))) (k false) (cond (!(f0 a0.2.2.2.2.1 a0.2.2.2.1 (100000 : Int))) (k false) (cond (decide ((IntKind.wrap .i64 (a0.2.2.2.2.1 - a0.2.2.2.1)) > (200 : Int))) (k false) (cond (!(f0 a0.2.2.2.2.2.1 (0 : Int) (12 : Int))) (k false) (cond (!(f1 a0.2.2.2.2.2.2.2.2.1)) (k false) (cond (f2 a0.2.2.2.2.2.2.2.2.2.1) (cond (a0.2.2.2.2.2.2.2.2.2.2.1 != (0 : Int)) (k false) (cond (f1 a0.2.2.2.2.2.2.2.2.2.2.2.1) (k true) (cond (f2 a0.2.2.2.2.2.2.2.2.2.2.2.1) (k (!a0.2.2.2.2.2.2.2.2.2.2.2.2)) (k false)))) (cond (!(f1 a0.2.2.2.2.2.2.2.2.2.1)) (k false) (cond (!(f0 a0.2.2.2.2.2.2.2.2.2.2.1 (1 : Int) (500 : Int))) (k false) (cond (f1 a0.2.2.2.2.2.2.2.2.2.2.2.1) (k true) (cond (f2 a0.2.2.2.2.2.2.2.2.2.2.2.1) (k (!a0.2.2.2.2.2.2.2.2.2.2.2.2)) (k false))))))))))))))))
def spec_IsHead {ρ : Type} (k : Bool → Option ρ) (a0 : THead) : Option ρ := spec_IsHead_P N.spec_l1In N.spec_IsKeys N.spec_NoKeys k a0
theorem spec_IsHead_ok {ρ : Type} (k : Bool → Option ρ) (a0 : THead) (l_a0 : (lenT TyHead a0)) : spec_IsHead k  a0 = k (N.spec_IsHead a0) := by
  have e1 : ∀ x : Bool, (cond (decide (IntKind.wrap .i64 (a0.2.2.2.2.1 - a0.2.2.2.1) > 200)) (k false) (k x)) = k (decide (IntKind.wrap .i64 (a0.2.2.2.2.1 - a0.2.2.2.1) ≤ 200) && x) := by
    intro x
    by_cases h : IntKind.wrap .i64 (a0.2.2.2.2.1 - a0.2.2.2.1) ≤ 200
    · rw [decide_eq_true h, decide_eq_false (by omega)]; rfl
    · rw [decide_eq_false h, decide_eq_true (by omega)]; rfl
  have e2 : decide (IntKind.wrap .i64 (a0.2.2.2.2.1 - a0.2.2.2.1) > 200) = !decide (IntKind.wrap .i64 (a0.2.2.2.2.1 - a0.2.2.2.1) ≤ 200) := by rw [← decide_not]; simp only [decide_eq_decide]; omega
  have e3 : (inR a0.2.2.2.1 0 100000 && (inR a0.2.2.2.2.1 a0.2.2.2.1 100000 && decide (IntKind.wrap .i64 (a0.2.2.2.2.1 - a0.2.2.2.1) ≤ 200))) = isSpan a0 := by
    unfold inR isSpan
    by_cases h1 : 0 ≤ a0.2.2.2.1 <;> by_cases h2 : a0.2.2.2.1 ≤ a0.2.2.2.2.1 <;> by_cases h3 : a0.2.2.2.2.1 ≤ 100000 <;> simp [h1, h2, h3]
    omega
  simp only [spec_IsHead, spec_IsHead_P, N.spec_l1In, N.spec_IsKeys, N.spec_NoKeys, N.spec_IsHead, isHead, ← e3, e2, isDigest, isMaybe, isWait, bne]
  cases inR a0.1 0 2147483646
  · rfl
  cases inR a0.2.2.2.2.2.2.1 0 2147483646
  · rfl
  cases inR a0.2.2.2.2.2.2.2.1 0 2147483646
  · rfl
  cases inR a0.2.1 0 200
  · rfl
  cases inR a0.2.2.1 1 3
  · rfl
  cases inR a0.2.2.2.1 0 100000
  · rfl
  cases inR a0.2.2.2.2.1 a0.2.2.2.1 100000
  · rfl
  cases decide (IntKind.wrap .i64 (a0.2.2.2.2.1 - a0.2.2.2.1) ≤ 200)
  · rfl
  cases inR a0.2.2.2.2.2.1 0 12
  · rfl
  cases isKeys a0.2.2.2.2.2.2.2.2.1
  · rfl
  cases noKeys a0.2.2.2.2.2.2.2.2.2.1 <;> cases isKeys a0.2.2.2.2.2.2.2.2.2.1 <;> cases a0.2.2.2.2.2.2.2.2.2.2.1 == 0 <;> cases inR a0.2.2.2.2.2.2.2.2.2.2.1 1 500 <;> cases h1 : isKeys a0.2.2.2.2.2.2.2.2.2.2.2.1 <;> cases h2 : noKeys a0.2.2.2.2.2.2.2.2.2.2.2.1 <;> cases a0.2.2.2.2.2.2.2.2.2.2.2.2 <;> first | rfl | exact (keys_not_both h1 h2).elim
def OP_spec_IsHead (f0 : Int → Int → Int → Bool) (f1 : TKeys → Bool) (f2 : TKeys → Bool) : Orac := (orcX 121 [.val (.pair (.slice 3 (.int .i64)) (.int .i64))] (fun d => true) (fun d => [⟨.bool, f2 d.1⟩]) (orcX 120 [.val (.pair (.slice 3 (.int .i64)) (.int .i64))] (fun d => true) (fun d => [⟨.bool, f1 d.1⟩]) (orcX 54 [.val (.int .i64), .val (.int .i64), .val (.int .i64)] (fun d => true) (fun d => [⟨.bool, f0 d.1 d.2.1 d.2.2.1⟩]) nilO)))
def O_spec_IsHead : Orac := OP_spec_IsHead N.spec_l1In N.spec_IsKeys N.spec_NoKeys
theorem ok_spec_IsHead : OracOk Tryz.prog sigs O_spec_IsHead := (orcX_ok rfl rfl (fun d g => said_spec_NoKeys d.1) (orcX_ok rfl rfl (fun d g => said_spec_IsKeys d.1) (orcX_ok rfl rfl (fun d g => said_spec_l1In d.1 d.2.1 d.2.2.1) nilO_ok)))
def A_spec_IsHead : Ann := fun b => ⟨[], []⟩
theorem aP_spec_IsHead (f0 : Int → Int → Int → Bool) (f1 : TKeys → Bool) (f2 : TKeys → Bool) (n : Nat) (a0 : THead) : absF tab sigs (OP_spec_IsHead f0 f1 f2) A_spec_IsHead Tryz.f65 [(.bool, .no)] n [.val TyHead a0] = spec_IsHead_P f0 f1 f2 (fun r0 => some [⟨.bool, r0⟩])  a0 := by kernel_rfl
theorem said_spec_IsHead (a0 : THead) : Said Tryz.prog sigs_65 65 [.val TyHead a0] [⟨.bool, N.spec_IsHead a0⟩] := said_len (T := tab) (A := A_spec_IsHead) tabOk ok_spec_IsHead tabOk.follows Tryz.func65 (by kernel_rfl) (by kernel_rfl) (fun hl => ⟨0, (aP_spec_IsHead N.spec_l1In N.spec_IsKeys N.spec_NoKeys 0 a0).trans (spec_IsHead_ok (ρ := Ret) (fun r0 => some [⟨.bool, r0⟩]) a0 hl.1)⟩)
abbrev G.spec_FirstHead (k : TKeys) (salt : Int) (l : List TEntry) (a b : Int) : Bool := decide (wK k ≤ 1048576) && decide (wEs l ≤ 1048576)
abbrev N.spec_FirstHead (k : TKeys) (salt : Int) (l : List TEntry) (a b : Int) : THead × Bool := firstHead k salt l a b
def spec_FirstHead_P {ρ : Type} (f0 : (List TEntry) → Bool) (g0 : (List TEntry) → Bool) (f1 : Int → Int → Int → Bool) (f2 : TKeys → Int → Int) (g2 : TKeys → Int → Bool) (f3 : (List TEntry) → Int) (g3 : (List TEntry) → Bool) (f4 : TKeys → TKeys) (g4 : TKeys → Bool) (f5 : THead → Bool) (k : THead → Bool → Option ρ) (a0 : TKeys) (a1 : Int) (a2 : (List TEntry)) (a3 : Int) (a4 : Int) : Option ρ := (cond (g0 a2) (cond (!(f0 a2)) (k ((0 : Int), ((0 : Int), ((0 : Int), ((0 : Int), ((0 : Int), ((0 : Int), ((0 : Int), ((0 : Int), (([], (0 : Int)), (([], (0 : Int)), ((0 : Int), (([], (0 : Int)), false)))))))))))) false) (cond (!(f1 a3 (0 : Int) (100000 : Int))) (k ((0 : Int), ((0 : Int), ((0 : Int), ((0 : Int), ((0 : Int), ((0 : Int), ((0 : Int), ((0 : Int), (([], (0 : Int)), (([], (0 : Int)), ((0 : Int), (([], (0 : Int)), false)))))))))))) false) (cond (!(f1 a4 (0 : Int) (200 : Int))) (k ((0 : Int), ((0 : Int), ((0 : Int), ((0 : Int), ((0 : Int), ((0 : Int), ((0 : Int), ((0 : Int), (([], (0 : Int)), (([], (0 : Int)), ((0 : Int), (([], (0 : Int)), false)))))))))))) false) (cond (g2 a0 a1) (cond (g3 a2) (cond (g4 a0) (cond (!(f5 ((f2 a0 a1), ((0 : Int), ((1 : Int), (a3, ((IntKind.wrap .i64 (a3 + a4)), ((List.length a2 : Int), ((f3 a2), (a1, ((f4 a0), ((([] : (List Int)), (0 : Int)), ((0 : Int), ((([] : (List Int)), (0 : Int)), false)))))))))))))) (k ((0 : Int), ((0 : Int), ((0 : Int), ((0 : Int), ((0 : Int), ((0 : Int), ((0 : Int), ((0 : Int), (([], (0 : Int)), (([], (0 : Int)), ((0 : Int), (([], (0 : Int)), false)))))))))))) false) (k ((f2 a0 a1), ((0 : Int), ((1 : Int), (a3, ((IntKind.wrap .i64 (a3 + a4)), ((List.length a2 : Int), ((f3 a2), (a1, ((f4 a0), (([], (0 : Int)), ((0 : Int), (([], (0 : Int)), false)))))))))))) true)) none) none) none)))) none)
def spec_FirstHead {ρ : Type} (k : THead → Bool → Option ρ) (a0 : TKeys) (a1 : Int) (a2 : (List TEntry)) (a3 : Int) (a4 : Int) : Option ρ := spec_FirstHead_P N.spec_AreEntries G.spec_AreEntries N.spec_l1In N.spec_ZoneOf G.spec_ZoneOf N.spec_RootOf G.spec_RootOf N.spec_l6Copy G.spec_l6Copy N.spec_IsHead k a0 a1 a2 a3 a4
theorem spec_FirstHead_ok {ρ : Type} (k : THead → Bool → Option ρ) (a0 : TKeys) (a1 : Int) (a2 : (List TEntry)) (a3 : Int) (a4 : Int) (l_a0 : (lnL (fun _ => True) a0.1 ∧ True)) (l_a2 : lnL (fun y => (True ∧ (True ∧ (True ∧ lnL (fun _ => True) y.2.2.2)))) a2) (g : G.spec_FirstHead a0 a1 a2 a3 a4 = true) : spec_FirstHead k  a0 a1 a2 a3 a4 = k (N.spec_FirstHead a0 a1 a2 a3 a4).1 (N.spec_FirstHead a0 a1 a2 a3 a4).2 := by
  unfold G.spec_FirstHead at g
  obtain ⟨g1, g2⟩ := (Bool.and_eq_true _ _).mp g
  simp only [spec_FirstHead, spec_FirstHead_P, G.spec_AreEntries, N.spec_AreEntries, N.spec_l1In, G.spec_ZoneOf, N.spec_ZoneOf, G.spec_RootOf, N.spec_RootOf, G.spec_l6Copy, N.spec_l6Copy, N.spec_IsHead, g1, g2, cond_true]
  show cond (!(areEntries a2)) (k zeroHead false) (cond (!(inR a3 0 100000)) (k zeroHead false) (cond (!(inR a4 0 200)) (k zeroHead false) (cond (!(isHead (headOf a0 a1 a2 a3 (IntKind.wrap .i64 (a3 + a4))))) (k zeroHead false) (k (headOf a0 a1 a2 a3 (IntKind.wrap .i64 (a3 + a4))) true)))) = k (firstHead a0 a1 a2 a3 a4).1 (firstHead a0 a1 a2 a3 a4).2
  unfold firstHead
  cases areEntries a2 <;> cases inR a3 0 100000 <;> cases inR a4 0 200 <;> cases isHead (headOf a0 a1 a2 a3 (IntKind.wrap .i64 (a3 + a4))) <;> rfl
def OP_spec_FirstHead (f0 : (List TEntry) → Bool) (g0 : (List TEntry) → Bool) (f1 : Int → Int → Int → Bool) (f2 : TKeys → Int → Int) (g2 : TKeys → Int → Bool) (f3 : (List TEntry) → Int) (g3 : (List TEntry) → Bool) (f4 : TKeys → TKeys) (g4 : TKeys → Bool) (f5 : THead → Bool) : Orac := (orcX 65 [.val TyHead] (fun d => true) (fun d => [⟨.bool, f5 d.1⟩]) (orcX 64 [.val (.pair (.slice 3 (.int .i64)) (.int .i64))] (fun d => g4 d.1) (fun d => [⟨(.pair (.slice 3 (.int .i64)) (.int .i64)), f4 d.1⟩]) (orcX 52 [.val (.slice 29 TyEntry)] (fun d => g3 d.1) (fun d => [⟨(.int .i64), f3 d.1⟩]) (orcX 27 [.val (.pair (.slice 3 (.int .i64)) (.int .i64)), .val (.int .i64)] (fun d => g2 d.1 d.2.1) (fun d => [⟨(.int .i64), f2 d.1 d.2.1⟩]) (orcX 54 [.val (.int .i64), .val (.int .i64), .val (.int .i64)] (fun d => true) (fun d => [⟨.bool, f1 d.1 d.2.1 d.2.2.1⟩]) (orcX 34 [.val (.slice 29 TyEntry)] (fun d => g0 d.1) (fun d => [⟨.bool, f0 d.1⟩]) nilO))))))
def O_spec_FirstHead : Orac := OP_spec_FirstHead N.spec_AreEntries G.spec_AreEntries N.spec_l1In N.spec_ZoneOf G.spec_ZoneOf N.spec_RootOf G.spec_RootOf N.spec_l6Copy G.spec_l6Copy N.spec_IsHead
theorem ok_spec_FirstHead : OracOk Tryz.prog sigs O_spec_FirstHead := (orcX_ok rfl rfl (fun d g => said_spec_IsHead d.1) (orcX_ok rfl rfl (fun d g => said_spec_l6Copy d.1 g) (orcX_ok rfl rfl (fun d g => said_spec_RootOf d.1 g) (orcX_ok rfl rfl (fun d g => said_spec_ZoneOf d.1 d.2.1 g) (orcX_ok rfl rfl (fun d g => said_spec_l1In d.1 d.2.1 d.2.2.1) (orcX_ok rfl rfl (fun d g => said_spec_AreEntries d.1 g) nilO_ok))))))
def A_spec_FirstHead : Ann := fun b => ⟨[], []⟩
theorem aP_spec_FirstHead (f0 : (List TEntry) → Bool) (g0 : (List TEntry) → Bool) (f1 : Int → Int → Int → Bool) (f2 : TKeys → Int → Int) (g2 : TKeys → Int → Bool) (f3 : (List TEntry) → Int) (g3 : (List TEntry) → Bool) (f4 : TKeys → TKeys) (g4 : TKeys → Bool) (f5 : THead → Bool) (n : Nat) (a0 : TKeys) (a1 : Int) (a2 : (List TEntry)) (a3 : Int) (a4 : Int) : absF tab sigs (OP_spec_FirstHead f0 g0 f1 f2 g2 f3 g3 f4 g4 f5) A_spec_FirstHead Tryz.f17 [(TyHead, (.pair .no (.pair .no (.pair .no (.pair .no (.pair .no (.pair .no (.pair .no (.pair .no (.pair (.pair (.own 0) .no) (.pair (.pair (.own 1) .no) (.pair .no (.pair (.pair (.own 2) .no) .no))))))))))))), (.bool, .no)] n [.val (.pair (.slice 3 (.int .i64)) (.int .i64)) a0, .val (.int .i64) a1, .val (.slice 29 TyEntry) a2, .val (.int .i64) a3, .val (.int .i64) a4] = spec_FirstHead_P f0 g0 f1 f2 g2 f3 g3 f4 g4 f5 (fun r0 r1 => some [⟨TyHead, r0⟩, ⟨.bool, r1⟩])  a0 a1 a2 a3 a4 := by kernel_rfl
theorem said_spec_FirstHead (a0 : TKeys) (a1 : Int) (a2 : (List TEntry)) (a3 : Int) (a4 : Int) (g : G.spec_FirstHead a0 a1 a2 a3 a4 = true) : Said Tryz.prog sigs_17 17 [.val (.pair (.slice 3 (.int .i64)) (.int .i64)) a0, .val (.int .i64) a1, .val (.slice 29 TyEntry) a2, .val (.int .i64) a3, .val (.int .i64) a4] [⟨TyHead, (N.spec_FirstHead a0 a1 a2 a3 a4).1⟩, ⟨.bool, (N.spec_FirstHead a0 a1 a2 a3 a4).2⟩] := said_len (T := tab) (A := A_spec_FirstHead) tabOk ok_spec_FirstHead tabOk.follows Tryz.func17 (by kernel_rfl) (by kernel_rfl) (fun hl => ⟨0, (aP_spec_FirstHead N.spec_AreEntries G.spec_AreEntries N.spec_l1In N.spec_ZoneOf G.spec_ZoneOf N.spec_RootOf G.spec_RootOf N.spec_l6Copy G.spec_l6Copy N.spec_IsHead 0 a0 a1 a2 a3 a4).trans (spec_FirstHead_ok (ρ := Ret) (fun r0 r1 => some [⟨TyHead, r0⟩, ⟨.bool, r1⟩]) a0 a1 a2 a3 a4 hl.1 hl.2.2.1 g)⟩)
abbrev G.impl_copyHead (h : THead) : Bool := decide (wH h ≤ 1048576)
abbrev N.impl_copyHead (h : THead) : THead := h
def impl_copyHead_P {ρ : Type} (f0 : TKeys → TKeys) (g0 : TKeys → Bool) (k : THead → Option ρ) (a0 : THead) : Option ρ := (cond (g0 a0.2.2.2.2.2.2.2.2.1) (cond (g0 a0.2.2.2.2.2.2.2.2.2.1) (cond (g0 a0.2.2.2.2.2.2.2.2.2.2.2.1) (k (a0.1, (a0.2.1, (a0.2.2.1, (a0.2.2.2.1, (a0.2.2.2.2.1, (a0.2.2.2.2.2.1, (a0.2.2.2.2.2.2.1, (a0.2.2.2.2.2.2.2.1, ((f0 a0.2.2.2.2.2.2.2.2.1), ((f0 a0.2.2.2.2.2.2.2.2.2.1), (a0.2.2.2.2.2.2.2.2.2.2.1, ((f0 a0.2.2.2.2.2.2.2.2.2.2.2.1), a0.2.2.2.2.2.2.2.2.2.2.2.2))))))))))))) none) none) none)
def impl_copyHead {ρ : Type} (k : THead → Option ρ) (a0 : THead) : Option ρ := impl_copyHead_P N.impl_copyKeys G.impl_copyKeys k a0
theorem impl_copyHead_ok {ρ : Type} (k : THead → Option ρ) (a0 : THead) (l_a0 : (lenT TyHead a0)) (g : G.impl_copyHead a0 = true) : impl_copyHead k  a0 = k (N.impl_copyHead a0) := by
  unfold G.impl_copyHead at g
  have h : wH a0 ≤ 1048576 := of_decide_eq_true g
  have g1 : decide (wK a0.2.2.2.2.2.2.2.2.1 ≤ 1048576) = true := decide_eq_true (by unfold wH at h; omega)
  have g2 : decide (wK a0.2.2.2.2.2.2.2.2.2.1 ≤ 1048576) = true := decide_eq_true (by unfold wH at h; omega)
  have g3 : decide (wK a0.2.2.2.2.2.2.2.2.2.2.2.1 ≤ 1048576) = true := decide_eq_true (by unfold wH at h; omega)
  simp only [impl_copyHead, impl_copyHead_P, G.impl_copyKeys, N.impl_copyKeys, g1, g2, g3, cond_true]
def OP_impl_copyHead (f0 : TKeys → TKeys) (g0 : TKeys → Bool) : Orac := (orcX 62 [.val (.pair (.slice 3 (.int .i64)) (.int .i64))] (fun d => g0 d.1) (fun d => [⟨(.pair (.slice 3 (.int .i64)) (.int .i64)), f0 d.1⟩]) nilO)
def O_impl_copyHead : Orac := OP_impl_copyHead N.impl_copyKeys G.impl_copyKeys
theorem ok_impl_copyHead : OracOk Tryz.prog sigs O_impl_copyHead := (orcX_ok rfl rfl (fun d g => said_impl_copyKeys d.1 g) nilO_ok)
def A_impl_copyHead : Ann := fun b => ⟨[], []⟩
theorem aP_impl_copyHead (f0 : TKeys → TKeys) (g0 : TKeys → Bool) (n : Nat) (a0 : THead) : absF tab sigs (OP_impl_copyHead f0 g0) A_impl_copyHead Tryz.f66 [(TyHead, (.pair .no (.pair .no (.pair .no (.pair .no (.pair .no (.pair .no (.pair .no (.pair .no (.pair (.pair (.own 0) .no) (.pair (.pair (.own 1) .no) (.pair .no (.pair (.pair (.own 2) .no) .no)))))))))))))] n [.val TyHead a0] = impl_copyHead_P f0 g0 (fun r0 => some [⟨TyHead, r0⟩])  a0 := by kernel_rfl
theorem said_impl_copyHead (a0 : THead) (g : G.impl_copyHead a0 = true) : Said Tryz.prog sigs_66 66 [.val TyHead a0] [⟨TyHead, N.impl_copyHead a0⟩] := said_len (T := tab) (A := A_impl_copyHead) tabOk ok_impl_copyHead tabOk.follows Tryz.func66 (by kernel_rfl) (by kernel_rfl) (fun hl => ⟨0, (aP_impl_copyHead N.impl_copyKeys G.impl_copyKeys 0 a0).trans (impl_copyHead_ok (ρ := Ret) (fun r0 => some [⟨TyHead, r0⟩]) a0 hl.1 g)⟩)
abbrev N.impl_bit (b : Bool) : Int := bitOf b
def impl_bit {ρ : Type} (k : Int → Option ρ) (a0 : Bool) : Option ρ := (cond a0 (k (1 : Int)) (k (0 : Int)))
theorem impl_bit_ok {ρ : Type} (k : Int → Option ρ) (a0 : Bool) : impl_bit k  a0 = k (N.impl_bit a0) := by
  simp only [impl_bit, N.impl_bit, bitOf]
  cases a0 <;> rfl
def O_impl_bit : Orac := nilO
theorem ok_impl_bit : OracOk Tryz.prog sigs O_impl_bit := nilO_ok
def A_impl_bit : Ann := fun b => ⟨[], []⟩
theorem a_impl_bit (n : Nat) (a0 : Bool) : absF tab sigs O_impl_bit A_impl_bit Tryz.f125 [((.int .i64), .no)] n [.val .bool a0] = impl_bit (fun r0 => some [⟨(.int .i64), r0⟩])  a0 := by kernel_rfl
theorem said_impl_bit (a0 : Bool) : Said Tryz.prog sigs_125 125 [.val .bool a0] [⟨(.int .i64), N.impl_bit a0⟩] := said_len (T := tab) (A := A_impl_bit) tabOk ok_impl_bit tabOk.follows Tryz.func125 (by kernel_rfl) (by kernel_rfl) (fun hl => ⟨0, (a_impl_bit 0 a0).trans (impl_bit_ok (ρ := Ret) (fun r0 => some [⟨(.int .i64), r0⟩]) a0)⟩)
abbrev G.slices_Grow_int__nil (n : Int) : Bool := decide (0 ≤ n) && decide (n ≤ 4194304)
abbrev N.slices_Grow_int__nil (n : Int) : List Int := []
def slices_Grow_int__nil {ρ : Type} (k : (List Int) → Option ρ) (a1 : Int) : Option ρ := (cond (decide (a1 < (0 : Int))) none (cond (decide ((IntKind.wrap .i64 (a1 - (IntKind.wrap .i64 ((0 : Int) - (List.length ([] : (List Int)) : Int))))) > (0 : Int))) (cond (decide (0 ≤ (IntKind.wrap .i64 (a1 - (IntKind.wrap .i64 ((0 : Int) - (List.length ([] : (List Int)) : Int))))))) (cond (fit (List.length ([] : (List Int))) (Int.toNat (IntKind.wrap .i64 (a1 - (IntKind.wrap .i64 ((0 : Int) - (List.length ([] : (List Int)) : Int))))))) (cond (decide (0 ≤ (List.length ([] : (List Int)) : Int)) && decide ((List.length ([] : (List Int)) : Int) ≤ (List.length (List.append ([] : (List Int)) (List.replicate (Int.toNat (IntKind.wrap .i64 (a1 - (IntKind.wrap .i64 ((0 : Int) - (List.length ([] : (List Int)) : Int)))))) (0 : Int))) : Int))) (k (List.take (Int.toNat (List.length ([] : (List Int)) : Int)) (List.append ([] : (List Int)) (List.replicate (Int.toNat (IntKind.wrap .i64 (a1 - (IntKind.wrap .i64 ((0 : Int) - (List.length ([] : (List Int)) : Int)))))) (0 : Int))))) none) none) none) (k [])))
theorem slices_Grow_int__nil_ok {ρ : Type} (k : (List Int) → Option ρ) (a1 : Int) (g : G.slices_Grow_int__nil a1 = true) : slices_Grow_int__nil k  a1 = k (N.slices_Grow_int__nil a1) := by
  unfold G.slices_Grow_int__nil at g
  replace g := (Bool.and_eq_true _ _).mp g
  have g1 : 0 ≤ a1 := of_decide_eq_true g.1
  have g2 : a1 ≤ 4194304 := of_decide_eq_true g.2
  have e0 : IntKind.wrap .i64 ((0 : Int) - (List.length ([] : List Int) : Int)) = 0 := by decide
  have e1 : IntKind.wrap .i64 (a1 - 0) = a1 := by rw [wrap_id (by omega) (by omega)]; omega
  have e2 : decide (a1 < 0) = false := decide_eq_false (by omega)
  simp only [slices_Grow_int__nil, e0, e1, e2, cond_false]
  by_cases h : a1 > 0
  · have e3 : fit (List.length ([] : List Int)) (Int.toNat a1) = true := fit_of (by simp; omega)
    simp only [decide_eq_true h, decide_eq_true g1, e3, cond_true]
    have e4 : decide (0 ≤ max a1 0) = true := decide_eq_true (by omega)
    simp
    rw [e4]
    rfl
  · simp only [decide_eq_false h, cond_false]
def O_slices_Grow_int__nil : Orac := nilO
theorem ok_slices_Grow_int__nil : OracOk Tryz.prog sigs O_slices_Grow_int__nil := nilO_ok
def A_slices_Grow_int__nil : Ann := fun b => ⟨[], []⟩
theorem a_slices_Grow_int__nil (n : Nat) (a1 : Int) : absF tab sigs O_slices_Grow_int__nil A_slices_Grow_int__nil Tryz.f156 [((.slice 3 (.int .i64)), (.own 0))] n [.nil 3 (.int .i64), .val (.int .i64) a1] = slices_Grow_int__nil (fun r0 => some [⟨(.slice 3 (.int .i64)), r0⟩])  a1 := by kernel_rfl
theorem said_slices_Grow_int__nil (a1 : Int) (g : G.slices_Grow_int__nil a1 = true) : Said Tryz.prog sigs_156 156 [.nil 3 (.int .i64), .val (.int .i64) a1] [⟨(.slice 3 (.int .i64)), N.slices_Grow_int__nil a1⟩] := said_len (T := tab) (A := A_slices_Grow_int__nil) tabOk ok_slices_Grow_int__nil tabOk.follows Tryz.func156 (by kernel_rfl) (by kernel_rfl) (fun hl => ⟨0, (a_slices_Grow_int__nil 0 a1).trans (slices_Grow_int__nil_ok (ρ := Ret) (fun r0 => some [⟨(.slice 3 (.int .i64)), r0⟩]) a1 g)⟩)
abbrev G.slices_Concat_int (l : List (List Int)) : Bool := decide (l.length ≤ 64) && decide (l.flatten.length ≤ 4194304)
abbrev N.slices_Concat_int (l : List (List Int)) : List Int := l.flatten
def slices_Concat_int_P_L2 {ρ : Type} (f0 : Int → (List Int)) (g0 : Int → Bool) (k : (List Int) → Option ρ) (L2 : (List (List Int)) → Int → Int → (List Int) → Option ρ) (v2_0 : (List (List Int))) (v2_1 : Int) (v2_2 : Int) (v2_3 : (List Int)) : Option ρ := (cond (decide (v2_2 < v2_1)) (cond (inRange v2_2 (List.length v2_0)) (cond (fit (List.length v2_3) (List.length (List.getD v2_0 (Int.toNat v2_2) []))) (L2 v2_0 v2_1 (IntKind.wrap .i64 (v2_2 + (1 : Int))) (List.append v2_3 (List.getD v2_0 (Int.toNat v2_2) []))) none) none) (k v2_3))
def slices_Concat_int_P_L0 {ρ : Type} (f0 : Int → (List Int)) (g0 : Int → Bool) (k : (List Int) → Option ρ) (L0 : (List (List Int)) → Int → (List (List Int)) → Int → Int → Option ρ) (L2 : (List (List Int)) → Int → Int → (List Int) → Option ρ) (v0_0 : (List (List Int))) (v0_1 : Int) (v0_2 : (List (List Int))) (v0_3 : Int) (v0_4 : Int) : Option ρ := (cond (decide (v0_4 < v0_3)) (cond (inRange v0_4 (List.length v0_2)) (cond (decide ((IntKind.wrap .i64 (v0_1 + (List.length (List.getD v0_2 (Int.toNat v0_4) []) : Int))) < (0 : Int))) none (L0 v0_0 (IntKind.wrap .i64 (v0_1 + (List.length (List.getD v0_2 (Int.toNat v0_4) []) : Int))) v0_2 v0_3 (IntKind.wrap .i64 (v0_4 + (1 : Int))))) none) (cond (g0 v0_1) (L2 v0_0 (List.length v0_0 : Int) (0 : Int) (f0 v0_1)) none))
def slices_Concat_int_P {ρ : Type} (f0 : Int → (List Int)) (g0 : Int → Bool) (k : (List Int) → Option ρ) (L0 : (List (List Int)) → Int → (List (List Int)) → Int → Int → Option ρ) (a0 : (List (List Int))) : Option ρ := (L0 a0 (0 : Int) a0 (List.length a0 : Int) (0 : Int))
def slices_Concat_int_L2 {ρ : Type} (k : (List Int) → Option ρ) (L2 : (List (List Int)) → Int → Int → (List Int) → Option ρ) (v2_0 : (List (List Int))) (v2_1 : Int) (v2_2 : Int) (v2_3 : (List Int)) : Option ρ := slices_Concat_int_P_L2 N.slices_Grow_int__nil G.slices_Grow_int__nil k L2 v2_0 v2_1 v2_2 v2_3
def slices_Concat_int_L0 {ρ : Type} (k : (List Int) → Option ρ) (L0 : (List (List Int)) → Int → (List (List Int)) → Int → Int → Option ρ) (L2 : (List (List Int)) → Int → Int → (List Int) → Option ρ) (v0_0 : (List (List Int))) (v0_1 : Int) (v0_2 : (List (List Int))) (v0_3 : Int) (v0_4 : Int) : Option ρ := slices_Concat_int_P_L0 N.slices_Grow_int__nil G.slices_Grow_int__nil k L0 L2 v0_0 v0_1 v0_2 v0_3 v0_4
def slices_Concat_int {ρ : Type} (k : (List Int) → Option ρ) (L0 : (List (List Int)) → Int → (List (List Int)) → Int → Int → Option ρ) (a0 : (List (List Int))) : Option ρ := slices_Concat_int_P N.slices_Grow_int__nil G.slices_Grow_int__nil k L0 a0
theorem slices_Concat_int_ok {ρ : Type} (k : (List Int) → Option ρ) (a0 : (List (List Int))) (l_a0 : lnL (fun y => lnL (fun _ => True) y) a0) (g : G.slices_Concat_int a0 = true) : ∃ n0, ∀ n, n0 ≤ n → ∀ (L0 : Nat → (List (List Int)) → Int → (List (List Int)) → Int → Int → Option ρ) (L2 : Nat → (List (List Int)) → Int → Int → (List Int) → Option ρ) (h0 : ∀ ( m : Nat) (v0_0 : (List (List Int))) (v0_1 : Int) (v0_2 : (List (List Int))) (v0_3 : Int) (v0_4 : Int), L0 (m + 1) v0_0 v0_1 v0_2 v0_3 v0_4 = slices_Concat_int_L0 k (L0 m) (L2 n) v0_0 v0_1 v0_2 v0_3 v0_4) (h2 : ∀ ( m : Nat) (v2_0 : (List (List Int))) (v2_1 : Int) (v2_2 : Int) (v2_3 : (List Int)), L2 (m + 1) v2_0 v2_1 v2_2 v2_3 = slices_Concat_int_L2 k (L2 m) v2_0 v2_1 v2_2 v2_3), slices_Concat_int k (L0 n) a0 = k (N.slices_Concat_int a0) := by
  unfold G.slices_Concat_int at g
  replace g := (Bool.and_eq_true _ _).mp g
  have g1 : a0.length ≤ 64 := of_decide_eq_true g.1
  have g2 : a0.flatten.length ≤ 4194304 := of_decide_eq_true g.2
  refine ⟨a0.length + 1, fun n hn L0 L2 h0 h2 => ?_⟩
  have hrun := raw_run0 (σ := Int) (s := 0) (L := fun m i s => L0 m a0 s a0 (a0.length : Int) i) (R := fun i s c => slices_Concat_int_L0 k (fun _ s _ _ i => c i s) (L2 n) a0 s a0 (a0.length : Int) i) (fun m i s => h0 m a0 s a0 (a0.length : Int) i) a0.length (fun j s => s = ((a0.take j).flatten.length : Int)) (fun j s => L2 n a0 (a0.length : Int) 0 []) (fun j s c hj hI hc => ?_) (fun s c hI => ?_) hn (by simp)
  · refine hrun.trans ?_
    refine (raw_foldl (a := a0) [] (fun o x => o ++ x) (k := k) (s := []) (L := fun m i s => L2 m a0 (a0.length : Int) i s) (R := fun i s c => slices_Concat_int_L2 k (fun _ _ i s => c i s) a0 (a0.length : Int) i s) (fun m i s => h2 m a0 (a0.length : Int) i s) (fun j o => o.length = (a0.take j).flatten.length) (fun j s c hj hI => ?_) (fun j s hj hI => ?_) (fun s c => ?_) hn (by simp)).trans (by rw [foldl_flat]; rfl)
    · have hs := take_flat_succ a0 j hj
      have hle := take_flat_le a0 (j + 1)
      have e3 : fit s.length (a0.getD j []).length = true := fit_of (by omega)
      simp only [slices_Concat_int_L2, slices_Concat_int_P_L2, lt_nat, inRange_nat, decide_eq_true hj, cond_true, Int.toNat_natCast, e3, wrap_succ (j := j) (by unfold big; omega), List.append_eq]
    · rw [List.length_append, take_flat_succ a0 j hj, hI]
    · simp [slices_Concat_int_L2, slices_Concat_int_P_L2]
  · have hs := take_flat_succ a0 j hj
    have hle := take_flat_le a0 (j + 1)
    have e1 : IntKind.wrap .i64 (s + ((a0.getD j []).length : Int)) = ((a0.take (j + 1)).flatten.length : Int) := by rw [hI, wrap_id (by omega) (by omega)]; omega
    have e2 : decide ((((a0.take (j + 1)).flatten.length : Nat) : Int) < 0) = false := decide_eq_false (by omega)
    have := hc _ rfl
    simp only [slices_Concat_int_L0, slices_Concat_int_P_L0, lt_nat, inRange_nat, decide_eq_true hj, cond_true, cond_false, Int.toNat_natCast, e1, e2, wrap_succ (j := j) (by unfold big; omega), this]
  · rw [List.take_length] at hI
    have e1 : G.slices_Grow_int__nil s = true := by
      unfold G.slices_Grow_int__nil
      rw [decide_eq_true (by omega), decide_eq_true (by omega)]
      rfl
    simp only [slices_Concat_int_L0, slices_Concat_int_P_L0, lt_nat, Nat.lt_irrefl, decide_false, cond_false, e1, cond_true]
def OP_slices_Concat_int (f0 : Int → (List Int)) (g0 : Int → Bool) : Orac := (orcX 156 [.nil 3 (.int .i64), .val (.int .i64)] (fun d => g0 d.2.1) (fun d => [⟨(.slice 3 (.int .i64)), f0 d.2.1⟩]) nilO)
def O_slices_Concat_int : Orac := OP_slices_Concat_int N.slices_Grow_int__nil G.slices_Grow_int__nil
theorem ok_slices_Concat_int : OracOk Tryz.prog sigs O_slices_Concat_int := (orcX_ok rfl rfl (fun d g => said_slices_Grow_int__nil d.2.1 g) nilO_ok)
def A_slices_Concat_int : Ann := fun b => cond (Nat.beq b 2) ⟨[(6, true), (25, false), (26, false), (27, false)], []⟩ (cond (Nat.beq b 0) ⟨[(0, false), (3, false), (9, false), (10, false), (11, false)], []⟩ (⟨[], []⟩))
def S_slices_Concat_int_0 (v0_0 : (List (List Int))) (v0_1 : Int) (v0_2 : (List (List Int))) (v0_3 : Int) (v0_4 : Int) : St := [(kT 0, some (.tv (.v (.slice 30 (.slice 3 (.int .i64))) v0_0 .no))), (kT 3, some (.tv (.v (.int .i64) v0_1 .no))), (kT 9, some (.tv (.v (.slice 30 (.slice 3 (.int .i64))) v0_2 .no))), (kT 10, some (.tv (.v (.int .i64) v0_3 .no))), (kT 11, some (.tv (.v (.int .i64) v0_4 .no)))]
noncomputable def L_P_slices_Concat_int_0 (f0 : Int → (List Int)) (g0 : Int → Bool) (n m : Nat) : St → Option Ret := loopOf tab sigs (OP_slices_Concat_int f0 g0) A_slices_Concat_int Tryz.f124 [((.slice 3 (.int .i64)), (.own 0))] n (fun _ => 0) 0 m
def S_slices_Concat_int_2 (v2_0 : (List (List Int))) (v2_1 : Int) (v2_2 : Int) (v2_3 : (List Int)) : St := [(kT 6, some (.tv (.v (.slice 3 (.int .i64)) [] (.own 48)))), (kT 25, some (.tv (.v (.slice 30 (.slice 3 (.int .i64))) v2_0 .no))), (kT 26, some (.tv (.v (.int .i64) v2_1 .no))), (kT 27, some (.tv (.v (.int .i64) v2_2 .no))), (kR 48, some (.row 3 (.int .i64) v2_3))]
noncomputable def L_P_slices_Concat_int_2 (f0 : Int → (List Int)) (g0 : Int → Bool) (n m : Nat) : St → Option Ret := loopOf tab sigs (OP_slices_Concat_int f0 g0) A_slices_Concat_int Tryz.f124 [((.slice 3 (.int .i64)), (.own 0))] n (fun _ => 0) 2 m
theorem bP_slices_Concat_int_0 (f0 : Int → (List Int)) (g0 : Int → Bool) (n m : Nat) (v0_0 : (List (List Int))) (v0_1 : Int) (v0_2 : (List (List Int))) (v0_3 : Int) (v0_4 : Int) : L_P_slices_Concat_int_0 f0 g0 n (m + 1) (S_slices_Concat_int_0 v0_0 v0_1 v0_2 v0_3 v0_4) = slices_Concat_int_P_L0 f0 g0 (fun r0 => some [⟨(.slice 3 (.int .i64)), r0⟩]) (fun v0_0 v0_1 v0_2 v0_3 v0_4 => L_P_slices_Concat_int_0 f0 g0 n m (S_slices_Concat_int_0 v0_0 v0_1 v0_2 v0_3 v0_4)) (fun v2_0 v2_1 v2_2 v2_3 => L_P_slices_Concat_int_2 f0 g0 n n (S_slices_Concat_int_2 v2_0 v2_1 v2_2 v2_3)) v0_0 v0_1 v0_2 v0_3 v0_4 := by kernel_rfl
theorem bP_slices_Concat_int_2 (f0 : Int → (List Int)) (g0 : Int → Bool) (n m : Nat) (v2_0 : (List (List Int))) (v2_1 : Int) (v2_2 : Int) (v2_3 : (List Int)) : L_P_slices_Concat_int_2 f0 g0 n (m + 1) (S_slices_Concat_int_2 v2_0 v2_1 v2_2 v2_3) = slices_Concat_int_P_L2 f0 g0 (fun r0 => some [⟨(.slice 3 (.int .i64)), r0⟩]) (fun v2_0 v2_1 v2_2 v2_3 => L_P_slices_Concat_int_2 f0 g0 n m (S_slices_Concat_int_2 v2_0 v2_1 v2_2 v2_3)) v2_0 v2_1 v2_2 v2_3 := by kernel_rfl
theorem aP_slices_Concat_int (f0 : Int → (List Int)) (g0 : Int → Bool) (n : Nat) (a0 : (List (List Int))) : absF tab sigs (OP_slices_Concat_int f0 g0) A_slices_Concat_int Tryz.f124 [((.slice 3 (.int .i64)), (.own 0))] n [.val (.slice 30 (.slice 3 (.int .i64))) a0] = slices_Concat_int_P f0 g0 (fun r0 => some [⟨(.slice 3 (.int .i64)), r0⟩]) (fun v0_0 v0_1 v0_2 v0_3 v0_4 => L_P_slices_Concat_int_0 f0 g0 n n (S_slices_Concat_int_0 v0_0 v0_1 v0_2 v0_3 v0_4)) a0 := by kernel_rfl
theorem said_slices_Concat_int (a0 : (List (List Int))) (g : G.slices_Concat_int a0 = true) : Said Tryz.prog sigs_124 124 [.val (.slice 30 (.slice 3 (.int .i64))) a0] [⟨(.slice 3 (.int .i64)), N.slices_Concat_int a0⟩] := said_len (T := tab) (A := A_slices_Concat_int) tabOk ok_slices_Concat_int tabOk.follows Tryz.func124 (by kernel_rfl) (by kernel_rfl) (fun hl => let ⟨n, hn⟩ := slices_Concat_int_ok (ρ := Ret) (fun r0 => some [⟨(.slice 3 (.int .i64)), r0⟩]) a0 hl.1 g; ⟨n, (aP_slices_Concat_int N.slices_Grow_int__nil G.slices_Grow_int__nil n a0).trans (hn n (Nat.le_refl n) (fun  m v0_0 v0_1 v0_2 v0_3 v0_4 => L_P_slices_Concat_int_0 N.slices_Grow_int__nil G.slices_Grow_int__nil n  m (S_slices_Concat_int_0 v0_0 v0_1 v0_2 v0_3 v0_4)) (fun  m v2_0 v2_1 v2_2 v2_3 => L_P_slices_Concat_int_2 N.slices_Grow_int__nil G.slices_Grow_int__nil n  m (S_slices_Concat_int_2 v2_0 v2_1 v2_2 v2_3)) (fun  m v0_0 v0_1 v0_2 v0_3 v0_4 => bP_slices_Concat_int_0 N.slices_Grow_int__nil G.slices_Grow_int__nil n  m v0_0 v0_1 v0_2 v0_3 v0_4) (fun  m v2_0 v2_1 v2_2 v2_3 => bP_slices_Concat_int_2 N.slices_Grow_int__nil G.slices_Grow_int__nil n  m v2_0 v2_1 v2_2 v2_3))⟩)
abbrev G.impl_HeadInts (h : THead) : Bool := decide (wH h ≤ 1048576)
abbrev N.impl_HeadInts (h : THead) : List Int := headInts h
def impl_HeadInts_P {ρ : Type} (f0 : TKeys → (List Int)) (g0 : TKeys → Bool) (f1 : Bool → Int) (f2 : (List (List Int)) → (List Int)) (g2 : (List (List Int)) → Bool) (k : (List Int) → Option ρ) (a0 : THead) : Option ρ := (cond (g0 a0.2.2.2.2.2.2.2.2.1) (cond (g0 a0.2.2.2.2.2.2.2.2.2.1) (cond (g0 a0.2.2.2.2.2.2.2.2.2.2.2.1) (cond (g2 [[a0.1, a0.2.1, a0.2.2.1, a0.2.2.2.1, a0.2.2.2.2.1, a0.2.2.2.2.2.1, a0.2.2.2.2.2.2.1, a0.2.2.2.2.2.2.2.1], (f0 a0.2.2.2.2.2.2.2.2.1), (f0 a0.2.2.2.2.2.2.2.2.2.1), [a0.2.2.2.2.2.2.2.2.2.2.1], (f0 a0.2.2.2.2.2.2.2.2.2.2.2.1), [(f1 a0.2.2.2.2.2.2.2.2.2.2.2.2)]]) (k (f2 [[a0.1, a0.2.1, a0.2.2.1, a0.2.2.2.1, a0.2.2.2.2.1, a0.2.2.2.2.2.1, a0.2.2.2.2.2.2.1, a0.2.2.2.2.2.2.2.1], (f0 a0.2.2.2.2.2.2.2.2.1), (f0 a0.2.2.2.2.2.2.2.2.2.1), [a0.2.2.2.2.2.2.2.2.2.2.1], (f0 a0.2.2.2.2.2.2.2.2.2.2.2.1), [(f1 a0.2.2.2.2.2.2.2.2.2.2.2.2)]])) none) none) none) none)
def impl_HeadInts {ρ : Type} (k : (List Int) → Option ρ) (a0 : THead) : Option ρ := impl_HeadInts_P N.impl_KeysInts G.impl_KeysInts N.impl_bit N.slices_Concat_int G.slices_Concat_int k a0
theorem impl_HeadInts_ok {ρ : Type} (k : (List Int) → Option ρ) (a0 : THead) (l_a0 : (lenT TyHead a0)) (g : G.impl_HeadInts a0 = true) : impl_HeadInts k  a0 = k (N.impl_HeadInts a0) := by
  unfold G.impl_HeadInts at g
  have hw : wH a0 ≤ 1048576 := of_decide_eq_true g
  unfold wH at hw
  have g1 : decide (wK a0.2.2.2.2.2.2.2.2.1 ≤ 1048576) = true := decide_eq_true (by omega)
  have g2 : decide (wK a0.2.2.2.2.2.2.2.2.2.1 ≤ 1048576) = true := decide_eq_true (by omega)
  have g3 : decide (wK a0.2.2.2.2.2.2.2.2.2.2.2.1 ≤ 1048576) = true := decide_eq_true (by omega)
  have hf : ([[a0.1, a0.2.1, a0.2.2.1, a0.2.2.2.1, a0.2.2.2.2.1, a0.2.2.2.2.2.1, a0.2.2.2.2.2.2.1, a0.2.2.2.2.2.2.2.1], keysInts a0.2.2.2.2.2.2.2.2.1, keysInts a0.2.2.2.2.2.2.2.2.2.1, [a0.2.2.2.2.2.2.2.2.2.2.1], keysInts a0.2.2.2.2.2.2.2.2.2.2.2.1, [bitOf a0.2.2.2.2.2.2.2.2.2.2.2.2]] : List (List Int)).flatten = headInts a0 := by
    unfold headInts
    simp
  have g4 : (decide (([[a0.1, a0.2.1, a0.2.2.1, a0.2.2.2.1, a0.2.2.2.2.1, a0.2.2.2.2.2.1, a0.2.2.2.2.2.2.1, a0.2.2.2.2.2.2.2.1], keysInts a0.2.2.2.2.2.2.2.2.1, keysInts a0.2.2.2.2.2.2.2.2.2.1, [a0.2.2.2.2.2.2.2.2.2.2.1], keysInts a0.2.2.2.2.2.2.2.2.2.2.2.1, [bitOf a0.2.2.2.2.2.2.2.2.2.2.2.2]] : List (List Int)).length ≤ 64) && decide ((headInts a0).length ≤ 4194304)) = true := by
    have h1 := headInts_len a0
    unfold wH at h1
    rw [decide_eq_true (p := (headInts a0).length ≤ 4194304) (by omega)]
    rfl
  simp only [impl_HeadInts, impl_HeadInts_P, G.impl_KeysInts, N.impl_KeysInts, N.impl_bit, g1, g2, g3, cond_true, G.slices_Concat_int, N.slices_Concat_int, hf, g4, N.impl_HeadInts]
def OP_impl_HeadInts (f0 : TKeys → (List Int)) (g0 : TKeys → Bool) (f1 : Bool → Int) (f2 : (List (List Int)) → (List Int)) (g2 : (List (List Int)) → Bool) : Orac := (orcX 124 [.val (.slice 30 (.slice 3 (.int .i64)))] (fun d => g2 d.1) (fun d => [⟨(.slice 3 (.int .i64)), f2 d.1⟩]) (orcX 125 [.val .bool] (fun d => true) (fun d => [⟨(.int .i64), f1 d.1⟩]) (orcX 72 [.val (.pair (.slice 3 (.int .i64)) (.int .i64))] (fun d => g0 d.1) (fun d => [⟨(.slice 3 (.int .i64)), f0 d.1⟩]) nilO)))
def O_impl_HeadInts : Orac := OP_impl_HeadInts N.impl_KeysInts G.impl_KeysInts N.impl_bit N.slices_Concat_int G.slices_Concat_int
theorem ok_impl_HeadInts : OracOk Tryz.prog sigs O_impl_HeadInts := (orcX_ok rfl rfl (fun d g => said_slices_Concat_int d.1 g) (orcX_ok rfl rfl (fun d g => said_impl_bit d.1) (orcX_ok rfl rfl (fun d g => said_impl_KeysInts d.1 g) nilO_ok)))
def A_impl_HeadInts : Ann := fun b => ⟨[], []⟩
theorem aP_impl_HeadInts (f0 : TKeys → (List Int)) (g0 : TKeys → Bool) (f1 : Bool → Int) (f2 : (List (List Int)) → (List Int)) (g2 : (List (List Int)) → Bool) (n : Nat) (a0 : THead) : absF tab sigs (OP_impl_HeadInts f0 g0 f1 f2 g2) A_impl_HeadInts Tryz.f68 [((.slice 3 (.int .i64)), (.own 0))] n [.val TyHead a0] = impl_HeadInts_P f0 g0 f1 f2 g2 (fun r0 => some [⟨(.slice 3 (.int .i64)), r0⟩])  a0 := by kernel_rfl
theorem said_impl_HeadInts (a0 : THead) (g : G.impl_HeadInts a0 = true) : Said Tryz.prog sigs_68 68 [.val TyHead a0] [⟨(.slice 3 (.int .i64)), N.impl_HeadInts a0⟩] := said_len (T := tab) (A := A_impl_HeadInts) tabOk ok_impl_HeadInts tabOk.follows Tryz.func68 (by kernel_rfl) (by kernel_rfl) (fun hl => ⟨0, (aP_impl_HeadInts N.impl_KeysInts G.impl_KeysInts N.impl_bit N.slices_Concat_int G.slices_Concat_int 0 a0).trans (impl_HeadInts_ok (ρ := Ret) (fun r0 => some [⟨(.slice 3 (.int .i64)), r0⟩]) a0 hl.1 g)⟩)
abbrev N.slices_Index_int (l : List Int) (x : Int) : Int := idxFrom (fun y => x == y) 0 l
def slices_Index_int_L0 {ρ : Type} (k : Int → Option ρ) (L0 : (List Int) → Int → Int → Int → Option ρ) (v0_0 : (List Int)) (v0_1 : Int) (v0_2 : Int) (v0_3 : Int) : Option ρ := (cond (decide (v0_3 < v0_2)) (cond (inRange v0_3 (List.length v0_0)) (cond (v0_1 == (List.getD v0_0 (Int.toNat v0_3) (0 : Int))) (k v0_3) (L0 v0_0 v0_1 v0_2 (IntKind.wrap .i64 (v0_3 + (1 : Int))))) none) (k (-1 : Int)))
def slices_Index_int {ρ : Type} (k : Int → Option ρ) (L0 : (List Int) → Int → Int → Int → Option ρ) (a0 : (List Int)) (a1 : Int) : Option ρ := (L0 a0 a1 (List.length a0 : Int) (0 : Int))
theorem slices_Index_int_ok {ρ : Type} (k : Int → Option ρ) (a0 : (List Int)) (a1 : Int) (l_a0 : lnL (fun _ => True) a0) : ∃ n0, ∀ n, n0 ≤ n → ∀ (L0 : Nat → (List Int) → Int → Int → Int → Option ρ) (h0 : ∀ ( m : Nat) (v0_0 : (List Int)) (v0_1 : Int) (v0_2 : Int) (v0_3 : Int), L0 (m + 1) v0_0 v0_1 v0_2 v0_3 = slices_Index_int_L0 k (L0 m) v0_0 v0_1 v0_2 v0_3), slices_Index_int k (L0 n) a0 a1 = k (N.slices_Index_int a0 a1) := by
  refine ⟨a0.length + 1, fun n hn L0 h0 => ?_⟩
  refine raw_idx (a := a0) 0 (fun y => a1 == y) (k := k) (σ := Unit) (s := ()) (L := fun m i _ => L0 m a0 a1 (a0.length : Int) i) (R := fun i s c => slices_Index_int_L0 k (fun _ _ _ i => c i ()) a0 a1 (a0.length : Int) i) (fun m i s => h0 m a0 a1 (a0.length : Int) i) (fun j s c hj => ?_) (fun s c => ?_) hn
  · have : j < big := by have := l_a0.1; omega
    simp only [slices_Index_int_L0, lt_nat, inRange_nat, decide_eq_true hj, cond_true, Int.toNat_natCast, wrap_succ this]
  · simp [slices_Index_int_L0]
def O_slices_Index_int : Orac := nilO
theorem ok_slices_Index_int : OracOk Tryz.prog sigs O_slices_Index_int := nilO_ok
def A_slices_Index_int : Ann := fun b => cond (Nat.beq b 0) ⟨[(0, false), (1, false), (7, false), (8, false)], []⟩ (⟨[], []⟩)
def S_slices_Index_int_0 (v0_0 : (List Int)) (v0_1 : Int) (v0_2 : Int) (v0_3 : Int) : St := [(kT 0, some (.tv (.v (.slice 3 (.int .i64)) v0_0 .no))), (kT 1, some (.tv (.v (.int .i64) v0_1 .no))), (kT 7, some (.tv (.v (.int .i64) v0_2 .no))), (kT 8, some (.tv (.v (.int .i64) v0_3 .no)))]
noncomputable def L_slices_Index_int_0 (n m : Nat) : St → Option Ret := loopOf tab sigs O_slices_Index_int A_slices_Index_int Tryz.f154 [((.int .i64), .no)] n (fun _ => 0) 0 m
theorem b_slices_Index_int_0 (n m : Nat) (v0_0 : (List Int)) (v0_1 : Int) (v0_2 : Int) (v0_3 : Int) : L_slices_Index_int_0 n (m + 1) (S_slices_Index_int_0 v0_0 v0_1 v0_2 v0_3) = slices_Index_int_L0 (fun r0 => some [⟨(.int .i64), r0⟩]) (fun v0_0 v0_1 v0_2 v0_3 => L_slices_Index_int_0 n m (S_slices_Index_int_0 v0_0 v0_1 v0_2 v0_3)) v0_0 v0_1 v0_2 v0_3 := by kernel_rfl
theorem a_slices_Index_int (n : Nat) (a0 : (List Int)) (a1 : Int) : absF tab sigs O_slices_Index_int A_slices_Index_int Tryz.f154 [((.int .i64), .no)] n [.val (.slice 3 (.int .i64)) a0, .val (.int .i64) a1] = slices_Index_int (fun r0 => some [⟨(.int .i64), r0⟩]) (fun v0_0 v0_1 v0_2 v0_3 => L_slices_Index_int_0 n n (S_slices_Index_int_0 v0_0 v0_1 v0_2 v0_3)) a0 a1 := by kernel_rfl
theorem said_slices_Index_int (a0 : (List Int)) (a1 : Int) : Said Tryz.prog sigs_154 154 [.val (.slice 3 (.int .i64)) a0, .val (.int .i64) a1] [⟨(.int .i64), N.slices_Index_int a0 a1⟩] := said_len (T := tab) (A := A_slices_Index_int) tabOk ok_slices_Index_int tabOk.follows Tryz.func154 (by kernel_rfl) (by kernel_rfl) (fun hl => let ⟨n, hn⟩ := slices_Index_int_ok (ρ := Ret) (fun r0 => some [⟨(.int .i64), r0⟩]) a0 a1 hl.1; ⟨n, (a_slices_Index_int n a0 a1).trans (hn n (Nat.le_refl n) (fun  m v0_0 v0_1 v0_2 v0_3 => L_slices_Index_int_0 n  m (S_slices_Index_int_0 v0_0 v0_1 v0_2 v0_3)) (fun  m v0_0 v0_1 v0_2 v0_3 => b_slices_Index_int_0 n  m v0_0 v0_1 v0_2 v0_3))⟩)
abbrev N.slices_Contains_int (l : List Int) (x : Int) : Bool := hasInt l x
def slices_Contains_int {ρ : Type} (k : Bool → Option ρ) (a0 : (List Int)) (a1 : Int) : Option ρ := (k (decide ((N.slices_Index_int a0 a1) ≥ (0 : Int))))
theorem slices_Contains_int_ok {ρ : Type} (k : Bool → Option ρ) (a0 : (List Int)) (a1 : Int) (l_a0 : lnL (fun _ => True) a0) : slices_Contains_int k  a0 a1 = k (N.slices_Contains_int a0 a1) := by
  show k (decide (idxFrom (fun y => a1 == y) 0 a0 ≥ 0)) = _
  rw [idxFrom_any]
  rfl
def OP_slices_Contains_int (f0 : (List Int) → Int → Int) : Orac := (orcX 154 [.val (.slice 3 (.int .i64)), .val (.int .i64)] (fun d => true) (fun d => [⟨(.int .i64), f0 d.1 d.2.1⟩]) nilO)
def O_slices_Contains_int : Orac := OP_slices_Contains_int N.slices_Index_int
def slices_Contains_int_P {ρ : Type} (f0 : (List Int) → Int → Int) (k : Bool → Option ρ) (a0 : (List Int)) (a1 : Int) : Option ρ := (k (decide ((f0 a0 a1) ≥ (0 : Int))))
theorem ok_slices_Contains_int : OracOk Tryz.prog sigs O_slices_Contains_int := (orcX_ok rfl rfl (fun d g => said_slices_Index_int d.1 d.2.1) nilO_ok)
def A_slices_Contains_int : Ann := fun b => ⟨[], []⟩
theorem aP_slices_Contains_int (f0 : (List Int) → Int → Int) (n : Nat) (a0 : (List Int)) (a1 : Int) : absF tab sigs (OP_slices_Contains_int f0) A_slices_Contains_int Tryz.f122 [(.bool, .no)] n [.val (.slice 3 (.int .i64)) a0, .val (.int .i64) a1] = slices_Contains_int_P f0 (fun r0 => some [⟨.bool, r0⟩])  a0 a1 := by kernel_rfl
theorem said_slices_Contains_int (a0 : (List Int)) (a1 : Int) : Said Tryz.prog sigs_122 122 [.val (.slice 3 (.int .i64)) a0, .val (.int .i64) a1] [⟨.bool, N.slices_Contains_int a0 a1⟩] := said_len (T := tab) (A := A_slices_Contains_int) tabOk ok_slices_Contains_int tabOk.follows Tryz.func122 (by kernel_rfl) (by kernel_rfl) (fun hl => ⟨0, (aP_slices_Contains_int N.slices_Index_int 0 a0 a1).trans (slices_Contains_int_ok (ρ := Ret) (fun r0 => some [⟨.bool, r0⟩]) a0 a1 hl.1)⟩)
abbrev G.impl_KeyedHash (key : Int) (l : List Int) : Bool := decide (l.length ≤ 2097152)
abbrev N.impl_KeyedHash (key : Int) (l : List Int) : Int := keyedHash key l
def impl_KeyedHash {ρ : Type} (k : Int → Option ρ) (a0 : Int) (a1 : (List Int)) : Option ρ := (cond (G.slices_Concat_int [[a0], a1, [a0]]) (k (N.impl_Hash (N.slices_Concat_int [[a0], a1, [a0]]))) none)
theorem impl_KeyedHash_ok {ρ : Type} (k : Int → Option ρ) (a0 : Int) (a1 : (List Int)) (l_a1 : lnL (fun _ => True) a1) (g : G.impl_KeyedHash a0 a1 = true) : impl_KeyedHash k  a0 a1 = k (N.impl_KeyedHash a0 a1) := by
  unfold G.impl_KeyedHash at g
  have h : a1.length ≤ 2097152 := of_decide_eq_true g
  have g1 : G.slices_Concat_int [[a0], a1, [a0]] = true := by
    unfold G.slices_Concat_int
    have e1 : ([[a0], a1, [a0]] : List (List Int)).flatten.length ≤ 4194304 := by simp; omega
    rw [decide_eq_true e1]
    rfl
  show cond _ _ none = _
  rw [g1]
  show k (hash ([[a0], a1, [a0]] : List (List Int)).flatten) = k (hash (a0 :: (a1 ++ [a0])))
  rw [show ([[a0], a1, [a0]] : List (List Int)).flatten = a0 :: (a1 ++ [a0]) by simp]
def OP_impl_KeyedHash (f0 : (List (List Int)) → (List Int)) (g0 : (List (List Int)) → Bool) (f1 : (List Int) → Int) : Orac := (orcX 71 [.val (.slice 3 (.int .i64))] (fun d => true) (fun d => [⟨(.int .i64), f1 d.1⟩]) (orcX 124 [.val (.slice 30 (.slice 3 (.int .i64)))] (fun d => g0 d.1) (fun d => [⟨(.slice 3 (.int .i64)), f0 d.1⟩]) nilO))
def O_impl_KeyedHash : Orac := OP_impl_KeyedHash N.slices_Concat_int G.slices_Concat_int N.impl_Hash
def impl_KeyedHash_P {ρ : Type} (f0 : (List (List Int)) → (List Int)) (g0 : (List (List Int)) → Bool) (f1 : (List Int) → Int) (k : Int → Option ρ) (a0 : Int) (a1 : (List Int)) : Option ρ := (cond (g0 [[a0], a1, [a0]]) (k (f1 (f0 [[a0], a1, [a0]]))) none)
theorem ok_impl_KeyedHash : OracOk Tryz.prog sigs O_impl_KeyedHash := (orcX_ok rfl rfl (fun d g => said_impl_Hash d.1) (orcX_ok rfl rfl (fun d g => said_slices_Concat_int d.1 g) nilO_ok))
def A_impl_KeyedHash : Ann := fun b => ⟨[], []⟩
theorem aP_impl_KeyedHash (f0 : (List (List Int)) → (List Int)) (g0 : (List (List Int)) → Bool) (f1 : (List Int) → Int) (n : Nat) (a0 : Int) (a1 : (List Int)) : absF tab sigs (OP_impl_KeyedHash f0 g0 f1) A_impl_KeyedHash Tryz.f155 [((.int .i64), .no)] n [.val (.int .i64) a0, .val (.slice 3 (.int .i64)) a1] = impl_KeyedHash_P f0 g0 f1 (fun r0 => some [⟨(.int .i64), r0⟩])  a0 a1 := by kernel_rfl
theorem said_impl_KeyedHash (a0 : Int) (a1 : (List Int)) (g : G.impl_KeyedHash a0 a1 = true) : Said Tryz.prog sigs_155 155 [.val (.int .i64) a0, .val (.slice 3 (.int .i64)) a1] [⟨(.int .i64), N.impl_KeyedHash a0 a1⟩] := said_len (T := tab) (A := A_impl_KeyedHash) tabOk ok_impl_KeyedHash tabOk.follows Tryz.func155 (by kernel_rfl) (by kernel_rfl) (fun hl => ⟨0, (aP_impl_KeyedHash N.slices_Concat_int G.slices_Concat_int N.impl_Hash 0 a0 a1).trans (impl_KeyedHash_ok (ρ := Ret) (fun r0 => some [⟨(.int .i64), r0⟩]) a0 a1 hl.2.1 g)⟩)
abbrev G.impl_TagOf (key : Int) (l : List Int) : Bool := decide (l.length ≤ 2097000)
abbrev N.impl_TagOf (key : Int) (l : List Int) : Int := tagOf key l
def impl_TagOf {ρ : Type} (k : Int → Option ρ) (a0 : Int) (a1 : (List Int)) : Option ρ := (cond (fit (List.length [(223 : Int)]) (List.length a1)) (cond (G.impl_KeyedHash a0 (List.append [(223 : Int)] a1)) (k (N.impl_KeyedHash a0 (List.append [(223 : Int)] a1))) none) none)
theorem impl_TagOf_ok {ρ : Type} (k : Int → Option ρ) (a0 : Int) (a1 : (List Int)) (l_a1 : lnL (fun _ => True) a1) (g : G.impl_TagOf a0 a1 = true) : impl_TagOf k  a0 a1 = k (N.impl_TagOf a0 a1) := by
  unfold G.impl_TagOf at g
  have h : a1.length ≤ 2097000 := of_decide_eq_true g
  have f1 : fit (List.length [(223 : Int)]) (List.length a1) = true := fit_of (by simp; omega)
  have g1 : G.impl_KeyedHash a0 (List.append [(223 : Int)] a1) = true := decide_eq_true (by simp; omega)
  show cond _ (cond _ _ none) none = _
  rw [f1, g1]
  rfl
def OP_impl_TagOf (f0 : Int → (List Int) → Int) (g0 : Int → (List Int) → Bool) : Orac := (orcX 155 [.val (.int .i64), .val (.slice 3 (.int .i64))] (fun d => g0 d.1 d.2.1) (fun d => [⟨(.int .i64), f0 d.1 d.2.1⟩]) nilO)
def O_impl_TagOf : Orac := OP_impl_TagOf N.impl_KeyedHash G.impl_KeyedHash
def impl_TagOf_P {ρ : Type} (f0 : Int → (List Int) → Int) (g0 : Int → (List Int) → Bool) (k : Int → Option ρ) (a0 : Int) (a1 : (List Int)) : Option ρ := (cond (fit (List.length [(223 : Int)]) (List.length a1)) (cond (g0 a0 (List.append [(223 : Int)] a1)) (k (f0 a0 (List.append [(223 : Int)] a1))) none) none)
theorem ok_impl_TagOf : OracOk Tryz.prog sigs O_impl_TagOf := (orcX_ok rfl rfl (fun d g => said_impl_KeyedHash d.1 d.2.1 g) nilO_ok)
def A_impl_TagOf : Ann := fun b => ⟨[], []⟩
theorem aP_impl_TagOf (f0 : Int → (List Int) → Int) (g0 : Int → (List Int) → Bool) (n : Nat) (a0 : Int) (a1 : (List Int)) : absF tab sigs (OP_impl_TagOf f0 g0) A_impl_TagOf Tryz.f123 [((.int .i64), .no)] n [.val (.int .i64) a0, .val (.slice 3 (.int .i64)) a1] = impl_TagOf_P f0 g0 (fun r0 => some [⟨(.int .i64), r0⟩])  a0 a1 := by kernel_rfl
theorem said_impl_TagOf (a0 : Int) (a1 : (List Int)) (g : G.impl_TagOf a0 a1 = true) : Said Tryz.prog sigs_123 123 [.val (.int .i64) a0, .val (.slice 3 (.int .i64)) a1] [⟨(.int .i64), N.impl_TagOf a0 a1⟩] := said_len (T := tab) (A := A_impl_TagOf) tabOk ok_impl_TagOf tabOk.follows Tryz.func123 (by kernel_rfl) (by kernel_rfl) (fun hl => ⟨0, (aP_impl_TagOf N.impl_KeyedHash G.impl_KeyedHash 0 a0 a1).trans (impl_TagOf_ok (ρ := Ret) (fun r0 => some [⟨(.int .i64), r0⟩]) a0 a1 hl.2.1 g)⟩)
end Go.Proofs.YthgbcbnmdioknaaGreat.Ref
