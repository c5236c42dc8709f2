/- Functions of the program: what each computes, and that it does so.
   Conditions: as each theorem states. -/
import Derived.Test.YtmhhbnonbnkhbaaGreatSB5
set_option linter.unusedVariables false
set_option linter.unusedSimpArgs false
set_option maxRecDepth 100000
namespace Go.Proofs.YtmhhbnonbnkhbaaGreat.Ref
open Go.RowKit Go.Proofs.YtmhhbnonbnkhbaaGreatW.PrintWords Go.Proofs.YtmhhbnonbnkhbaaGreatW.PrintLast
abbrev G.impl_MayFollow (a : THead) (b : TSigned) : Bool := decide (wH a ≤ 1048576) && decide (wSd b ≤ 1048576)
abbrev N.impl_MayFollow (a : THead) (b : TSigned) : Bool := nextCode a b == 1
def impl_MayFollow {ρ : Type} (k : Bool → Option ρ) (a0 : THead) (a1 : TSigned) : Option ρ := (cond (G.impl_NextCode a0 a1) (k ((N.impl_NextCode a0 a1) == (1 : Int))) none)
theorem impl_MayFollow_ok {ρ : Type} (k : Bool → Option ρ) (a0 : THead) (a1 : TSigned) (l_a0 : (lenT TyHead a0)) (l_a1 : (lenT TySigned a1)) (g : G.impl_MayFollow a0 a1 = true) : impl_MayFollow k  a0 a1 = k (N.impl_MayFollow a0 a1) := by
  unfold G.impl_MayFollow at g
  simp only [impl_MayFollow, N.impl_NextCode, G.impl_NextCode, g, cond_true]
def OP_impl_MayFollow (f_impl_NextCode : THead → TSigned → Int) (g_impl_NextCode : THead → TSigned → Bool) : Orac := (orcX 6 [.val TyHead, .val TySigned] (fun d => g_impl_NextCode d.1 d.2.1) (fun d => [⟨(.int .i64), f_impl_NextCode d.1 d.2.1⟩]) nilO)
def O_impl_MayFollow : Orac := OP_impl_MayFollow N.impl_NextCode G.impl_NextCode
def impl_MayFollow_P {ρ : Type} (f_impl_NextCode : THead → TSigned → Int) (g_impl_NextCode : THead → TSigned → Bool) (k : Bool → Option ρ) (a0 : THead) (a1 : TSigned) : Option ρ := (cond (g_impl_NextCode a0 a1) (k ((f_impl_NextCode a0 a1) == (1 : Int))) none)
theorem ok_impl_MayFollow : OracOk Tryz.prog sigs O_impl_MayFollow := (orcX_ok rfl rfl (fun d g => said_impl_NextCode d.1 d.2.1 g) nilO_ok)
def A_impl_MayFollow : Ann := fun b => ⟨[], []⟩
theorem aP_impl_MayFollow (f_impl_NextCode : THead → TSigned → Int) (g_impl_NextCode : THead → TSigned → Bool) (n : Nat) (a0 : THead) (a1 : TSigned) : absF tab sigs (OP_impl_MayFollow f_impl_NextCode g_impl_NextCode) A_impl_MayFollow Tryz.f8 [(.bool, .no)] n [.val TyHead a0, .val TySigned a1] = impl_MayFollow_P f_impl_NextCode g_impl_NextCode (fun r0 => some [⟨.bool, r0⟩])  a0 a1 := by kernel_rfl
theorem a_impl_MayFollow (n : Nat) (a0 : THead) (a1 : TSigned) : absF tab sigs O_impl_MayFollow A_impl_MayFollow Tryz.f8 [(.bool, .no)] n [.val TyHead a0, .val TySigned a1] = impl_MayFollow (fun r0 => some [⟨.bool, r0⟩])  a0 a1 := aP_impl_MayFollow N.impl_NextCode G.impl_NextCode n a0 a1
theorem said_impl_MayFollow (a0 : THead) (a1 : TSigned) (g : G.impl_MayFollow a0 a1 = true) : Said Tryz.prog sigs_8 8 [.val TyHead a0, .val TySigned a1] [⟨.bool, N.impl_MayFollow a0 a1⟩] := said_len (T := tab) (A := A_impl_MayFollow) tabOk ok_impl_MayFollow tabOk.follows Tryz.func8 (by kernel_rfl) (by kernel_rfl) (fun hl => ⟨0, (a_impl_MayFollow 0 a0 a1).trans (impl_MayFollow_ok (ρ := Ret) (fun r0 => some [⟨.bool, r0⟩]) a0 a1 hl.1 hl.2.1 g)⟩)
abbrev G.impl_nameOf (c : Int) (l : List ByteArray) : Bool := decide (l.length ≤ 1000)
abbrev N.impl_nameOf (c : Int) (l : List ByteArray) : ByteArray := nameOf c l
def impl_nameOf {ρ : Type} (k : ByteArray → Option ρ) (a0 : Int) (a1 : (List ByteArray)) : Option ρ := (cond (!(N.impl_InRange a0 (1 : Int) (List.length a1 : Int))) (k (ByteArray.mk #[])) (cond (inRange (IntKind.wrap .i64 (a0 - (1 : Int))) (List.length a1)) (k (List.getD a1 (Int.toNat (IntKind.wrap .i64 (a0 - (1 : Int)))) ByteArray.empty)) none))
theorem impl_nameOf_ok {ρ : Type} (k : ByteArray → Option ρ) (a0 : Int) (a1 : (List ByteArray)) (l_a1 : lnL (fun _ => True) a1) (g : G.impl_nameOf a0 a1 = true) : impl_nameOf k  a0 a1 = k (N.impl_nameOf a0 a1) := by
  unfold G.impl_nameOf at g
  have hl := of_decide_eq_true g
  simp only [impl_nameOf, N.impl_InRange, nameOf]
  cases h : inR a0 1 (a1.length : Int) with
  | false => rfl
  | true =>
    rw [nameOf_in h hl]
    rfl
def OP_impl_nameOf (f_impl_InRange : Int → Int → Int → Bool) : Orac := (orcX 54 [.val (.int .i64), .val (.int .i64), .val (.int .i64)] (fun d => true) (fun d => [⟨.bool, f_impl_InRange d.1 d.2.1 d.2.2.1⟩]) nilO)
def O_impl_nameOf : Orac := OP_impl_nameOf N.impl_InRange
def impl_nameOf_P {ρ : Type} (f_impl_InRange : Int → Int → Int → Bool) (k : ByteArray → Option ρ) (a0 : Int) (a1 : (List ByteArray)) : Option ρ := (cond (!(f_impl_InRange a0 (1 : Int) (List.length a1 : Int))) (k (ByteArray.mk #[])) (cond (inRange (IntKind.wrap .i64 (a0 - (1 : Int))) (List.length a1)) (k (List.getD a1 (Int.toNat (IntKind.wrap .i64 (a0 - (1 : Int)))) ByteArray.empty)) none))
theorem ok_impl_nameOf : OracOk Tryz.prog sigs O_impl_nameOf := (orcX_ok rfl rfl (fun d g => said_impl_InRange d.1 d.2.1 d.2.2.1) nilO_ok)
def A_impl_nameOf : Ann := fun b => ⟨[], []⟩
theorem aP_impl_nameOf (f_impl_InRange : Int → Int → Int → Bool) (n : Nat) (a0 : Int) (a1 : (List ByteArray)) : absF tab sigs (OP_impl_nameOf f_impl_InRange) A_impl_nameOf Tryz.f34 [(.str, .no)] n [.val (.int .i64) a0, .val (.slice 9 .str) a1] = impl_nameOf_P f_impl_InRange (fun r0 => some [⟨.str, r0⟩])  a0 a1 := by kernel_rfl
theorem a_impl_nameOf (n : Nat) (a0 : Int) (a1 : (List ByteArray)) : absF tab sigs O_impl_nameOf A_impl_nameOf Tryz.f34 [(.str, .no)] n [.val (.int .i64) a0, .val (.slice 9 .str) a1] = impl_nameOf (fun r0 => some [⟨.str, r0⟩])  a0 a1 := aP_impl_nameOf N.impl_InRange n a0 a1
theorem said_impl_nameOf (a0 : Int) (a1 : (List ByteArray)) (g : G.impl_nameOf a0 a1 = true) : Said Tryz.prog sigs_34 34 [.val (.int .i64) a0, .val (.slice 9 .str) a1] [⟨.str, N.impl_nameOf a0 a1⟩] := said_len (T := tab) (A := A_impl_nameOf) tabOk ok_impl_nameOf tabOk.follows Tryz.func34 (by kernel_rfl) (by kernel_rfl) (fun hl => ⟨0, (a_impl_nameOf 0 a0 a1).trans (impl_nameOf_ok (ρ := Ret) (fun r0 => some [⟨.str, r0⟩]) a0 a1 hl.2.1 g)⟩)
abbrev N.impl_CodeName (c : Int) : ByteArray := nameOf c codeNames
def impl_CodeName {ρ : Type} (k : ByteArray → Option ρ) (a0 : Int) : Option ρ := (cond (G.impl_nameOf a0 [(ByteArray.mk #[111, 107]), (ByteArray.mk #[102, 111, 114, 109]), (ByteArray.mk #[111, 114, 100, 101, 114]), (ByteArray.mk #[102, 114, 111, 122, 101, 110]), (ByteArray.mk #[119, 97, 105, 116]), (ByteArray.mk #[99, 104, 97, 110, 103, 101]), (ByteArray.mk #[115, 105, 103, 110, 115])]) (k (N.impl_nameOf a0 [(ByteArray.mk #[111, 107]), (ByteArray.mk #[102, 111, 114, 109]), (ByteArray.mk #[111, 114, 100, 101, 114]), (ByteArray.mk #[102, 114, 111, 122, 101, 110]), (ByteArray.mk #[119, 97, 105, 116]), (ByteArray.mk #[99, 104, 97, 110, 103, 101]), (ByteArray.mk #[115, 105, 103, 110, 115])])) none)
theorem impl_CodeName_ok {ρ : Type} (k : ByteArray → Option ρ) (a0 : Int) : impl_CodeName k  a0 = k (N.impl_CodeName a0) := by
  rfl
def OP_impl_CodeName (f_impl_nameOf : Int → (List ByteArray) → ByteArray) (g_impl_nameOf : Int → (List ByteArray) → Bool) : Orac := (orcX 34 [.val (.int .i64), .val (.slice 9 .str)] (fun d => g_impl_nameOf d.1 d.2.1) (fun d => [⟨.str, f_impl_nameOf d.1 d.2.1⟩]) nilO)
def O_impl_CodeName : Orac := OP_impl_CodeName N.impl_nameOf G.impl_nameOf
def impl_CodeName_P {ρ : Type} (f_impl_nameOf : Int → (List ByteArray) → ByteArray) (g_impl_nameOf : Int → (List ByteArray) → Bool) (k : ByteArray → Option ρ) (a0 : Int) : Option ρ := (cond (g_impl_nameOf a0 [(ByteArray.mk #[111, 107]), (ByteArray.mk #[102, 111, 114, 109]), (ByteArray.mk #[111, 114, 100, 101, 114]), (ByteArray.mk #[102, 114, 111, 122, 101, 110]), (ByteArray.mk #[119, 97, 105, 116]), (ByteArray.mk #[99, 104, 97, 110, 103, 101]), (ByteArray.mk #[115, 105, 103, 110, 115])]) (k (f_impl_nameOf a0 [(ByteArray.mk #[111, 107]), (ByteArray.mk #[102, 111, 114, 109]), (ByteArray.mk #[111, 114, 100, 101, 114]), (ByteArray.mk #[102, 114, 111, 122, 101, 110]), (ByteArray.mk #[119, 97, 105, 116]), (ByteArray.mk #[99, 104, 97, 110, 103, 101]), (ByteArray.mk #[115, 105, 103, 110, 115])])) none)
theorem ok_impl_CodeName : OracOk Tryz.prog sigs O_impl_CodeName := (orcX_ok rfl rfl (fun d g => said_impl_nameOf d.1 d.2.1 g) nilO_ok)
def A_impl_CodeName : Ann := fun b => ⟨[], []⟩
theorem aP_impl_CodeName (f_impl_nameOf : Int → (List ByteArray) → ByteArray) (g_impl_nameOf : Int → (List ByteArray) → Bool) (n : Nat) (a0 : Int) : absF tab sigs (OP_impl_CodeName f_impl_nameOf g_impl_nameOf) A_impl_CodeName Tryz.f9 [(.str, .no)] n [.val (.int .i64) a0] = impl_CodeName_P f_impl_nameOf g_impl_nameOf (fun r0 => some [⟨.str, r0⟩])  a0 := by kernel_rfl
theorem a_impl_CodeName (n : Nat) (a0 : Int) : absF tab sigs O_impl_CodeName A_impl_CodeName Tryz.f9 [(.str, .no)] n [.val (.int .i64) a0] = impl_CodeName (fun r0 => some [⟨.str, r0⟩])  a0 := aP_impl_CodeName N.impl_nameOf G.impl_nameOf n a0
theorem said_impl_CodeName (a0 : Int) : Said Tryz.prog sigs_9 9 [.val (.int .i64) a0] [⟨.str, N.impl_CodeName a0⟩] := said_len (T := tab) (A := A_impl_CodeName) tabOk ok_impl_CodeName tabOk.follows Tryz.func9 (by kernel_rfl) (by kernel_rfl) (fun hl => ⟨0, (a_impl_CodeName 0 a0).trans (impl_CodeName_ok (ρ := Ret) (fun r0 => some [⟨.str, r0⟩]) a0)⟩)
abbrev G.slices_Clone_int (a : List Int) : Bool := decide (a.length ≤ 1048576)
abbrev N.slices_Clone_int (a : List Int) : List Int := a
noncomputable def slices_Clone_int {ρ : Type} (k : (List Int) → Option ρ) (a0 : (List Int)) : Option ρ := (cond (List.isEmpty a0) (both (k []) (cond (fit (List.length ([] : (List Int))) (List.length a0)) (k (List.append ([] : (List Int)) a0)) none)) (cond (fit (List.length ([] : (List Int))) (List.length a0)) (k (List.append ([] : (List Int)) a0)) none))
theorem slices_Clone_int_ok {ρ : Type} (k : (List Int) → Option ρ) (a0 : (List Int)) (l_a0 : lnL (fun _ => True) a0) (g : G.slices_Clone_int a0 = true) : slices_Clone_int k  a0 = k (N.slices_Clone_int a0) := by
  unfold G.slices_Clone_int at g
  have h1 : fit (List.length ([] : List Int)) (List.length a0) = true := fit_of (by have := of_decide_eq_true g; simp; omega)
  unfold slices_Clone_int
  rw [h1]
  cases a0 with
  | nil => exact both_self _
  | cons x l => rfl
def O_slices_Clone_int : Orac := nilO
theorem ok_slices_Clone_int : OracOk Tryz.prog sigs O_slices_Clone_int := nilO_ok
def A_slices_Clone_int : Ann := fun b => ⟨[], []⟩
theorem a_slices_Clone_int (n : Nat) (a0 : (List Int)) : absF tab sigs O_slices_Clone_int A_slices_Clone_int Tryz.f65 [((.slice 3 (.int .i64)), (.own 0))] n [.val (.slice 3 (.int .i64)) a0] = slices_Clone_int (fun r0 => some [⟨(.slice 3 (.int .i64)), r0⟩])  a0 := by kernel_rfl
theorem said_slices_Clone_int (a0 : (List Int)) (g : G.slices_Clone_int a0 = true) : Said Tryz.prog sigs_65 65 [.val (.slice 3 (.int .i64)) a0] [⟨(.slice 3 (.int .i64)), N.slices_Clone_int a0⟩] := said_len (T := tab) (A := A_slices_Clone_int) tabOk ok_slices_Clone_int tabOk.follows Tryz.func65 (by kernel_rfl) (by kernel_rfl) (fun hl => ⟨0, (a_slices_Clone_int 0 a0).trans (slices_Clone_int_ok (ρ := Ret) (fun r0 => some [⟨(.slice 3 (.int .i64)), r0⟩]) a0 hl.1 g)⟩)
abbrev G.impl_copyKeys (a : TKeys) : Bool := decide (wK a ≤ 1048576)
abbrev N.impl_copyKeys (a : TKeys) : TKeys := a
def impl_copyKeys {ρ : Type} (k : TKeys → Option ρ) (a0 : TKeys) : Option ρ := (cond (G.slices_Clone_int a0.1) (k ((N.slices_Clone_int a0.1), a0.2)) none)
theorem impl_copyKeys_ok {ρ : Type} (k : TKeys → Option ρ) (a0 : TKeys) (l_a0 : (lnL (fun _ => True) a0.1 ∧ True)) (g : G.impl_copyKeys a0 = true) : impl_copyKeys k  a0 = k (N.impl_copyKeys a0) := by
  unfold G.impl_copyKeys at g
  show cond (decide (wK a0 ≤ 1048576)) _ none = _
  rw [g]
  rfl
def OP_impl_copyKeys (f_slices_Clone_int : (List Int) → (List Int)) (g_slices_Clone_int : (List Int) → Bool) : Orac := (orcX 65 [.val (.slice 3 (.int .i64))] (fun d => g_slices_Clone_int d.1) (fun d => [⟨(.slice 3 (.int .i64)), f_slices_Clone_int d.1⟩]) nilO)
def O_impl_copyKeys : Orac := OP_impl_copyKeys N.slices_Clone_int G.slices_Clone_int
def impl_copyKeys_P {ρ : Type} (f_slices_Clone_int : (List Int) → (List Int)) (g_slices_Clone_int : (List Int) → Bool) (k : TKeys → Option ρ) (a0 : TKeys) : Option ρ := (cond (g_slices_Clone_int a0.1) (k ((f_slices_Clone_int a0.1), a0.2)) none)
theorem ok_impl_copyKeys : OracOk Tryz.prog sigs O_impl_copyKeys := (orcX_ok rfl rfl (fun d g => said_slices_Clone_int d.1 g) nilO_ok)
def A_impl_copyKeys : Ann := fun b => ⟨[], []⟩
theorem aP_impl_copyKeys (f_slices_Clone_int : (List Int) → (List Int)) (g_slices_Clone_int : (List Int) → Bool) (n : Nat) (a0 : TKeys) : absF tab sigs (OP_impl_copyKeys f_slices_Clone_int g_slices_Clone_int) A_impl_copyKeys Tryz.f36 [((.pair (.slice 3 (.int .i64)) (.int .i64)), (.pair (.own 0) .no))] n [.val (.pair (.slice 3 (.int .i64)) (.int .i64)) a0] = impl_copyKeys_P f_slices_Clone_int g_slices_Clone_int (fun r0 => some [⟨(.pair (.slice 3 (.int .i64)) (.int .i64)), r0⟩])  a0 := by kernel_rfl
theorem a_impl_copyKeys (n : Nat) (a0 : TKeys) : absF tab sigs O_impl_copyKeys A_impl_copyKeys Tryz.f36 [((.pair (.slice 3 (.int .i64)) (.int .i64)), (.pair (.own 0) .no))] n [.val (.pair (.slice 3 (.int .i64)) (.int .i64)) a0] = impl_copyKeys (fun r0 => some [⟨(.pair (.slice 3 (.int .i64)) (.int .i64)), r0⟩])  a0 := aP_impl_copyKeys N.slices_Clone_int G.slices_Clone_int n a0
theorem said_impl_copyKeys (a0 : TKeys) (g : G.impl_copyKeys a0 = true) : Said Tryz.prog sigs_36 36 [.val (.pair (.slice 3 (.int .i64)) (.int .i64)) a0] [⟨(.pair (.slice 3 (.int .i64)) (.int .i64)), N.impl_copyKeys a0⟩] := said_len (T := tab) (A := A_impl_copyKeys) tabOk ok_impl_copyKeys tabOk.follows Tryz.func36 (by kernel_rfl) (by kernel_rfl) (fun hl => ⟨0, (a_impl_copyKeys 0 a0).trans (impl_copyKeys_ok (ρ := Ret) (fun r0 => some [⟨(.pair (.slice 3 (.int .i64)) (.int .i64)), r0⟩]) a0 hl.1 g)⟩)
abbrev G.impl_OwnersAfter (a : THead) (b : TSigned) : Bool := decide (wH a ≤ 1048576) && decide (wSd b ≤ 1048576)
abbrev N.impl_OwnersAfter (a : THead) (b : TSigned) : TKeys := cond (nextCode a b == 1) b.1.2.2.2.2.2.2.2.2.1 a.2.2.2.2.2.2.2.2.1
def impl_OwnersAfter {ρ : Type} (k : TKeys → Option ρ) (a0 : THead) (a1 : TSigned) : Option ρ := (cond (G.impl_MayFollow a0 a1) (cond (N.impl_MayFollow a0 a1) (cond (G.impl_copyKeys a1.1.2.2.2.2.2.2.2.2.1) (k (N.impl_copyKeys a1.1.2.2.2.2.2.2.2.2.1)) none) (cond (G.impl_copyKeys a0.2.2.2.2.2.2.2.2.1) (k (N.impl_copyKeys a0.2.2.2.2.2.2.2.2.1)) none)) none)
theorem impl_OwnersAfter_ok {ρ : Type} (k : TKeys → Option ρ) (a0 : THead) (a1 : TSigned) (l_a0 : (lenT TyHead a0)) (l_a1 : (lenT TySigned a1)) (g : G.impl_OwnersAfter a0 a1 = true) : impl_OwnersAfter k  a0 a1 = k (N.impl_OwnersAfter a0 a1) := by
  unfold G.impl_OwnersAfter at g
  obtain ⟨g1, g2⟩ := (Bool.and_eq_true _ _).mp g
  have h1 : wH a0 ≤ 1048576 := of_decide_eq_true g1
  have h2 : wSd a1 ≤ 1048576 := of_decide_eq_true g2
  have e1 : decide (wK a0.2.2.2.2.2.2.2.2.1 ≤ 1048576) = true := decide_eq_true (by unfold wH at h1; omega)
  have e2 : decide (wK a1.1.2.2.2.2.2.2.2.2.1 ≤ 1048576) = true := decide_eq_true (by unfold wSd wH at h2; omega)
  simp only [impl_OwnersAfter, G.impl_MayFollow, N.impl_MayFollow, G.impl_copyKeys, N.impl_copyKeys, g1, g2, e1, e2, Bool.and_self, cond_true]
  exact k_cond2 k _ _ _
def OP_impl_OwnersAfter (f_impl_MayFollow : THead → TSigned → Bool) (g_impl_MayFollow : THead → TSigned → Bool) (f_impl_copyKeys : TKeys → TKeys) (g_impl_copyKeys : TKeys → Bool) : Orac := (orcX 36 [.val (.pair (.slice 3 (.int .i64)) (.int .i64))] (fun d => g_impl_copyKeys d.1) (fun d => [⟨(.pair (.slice 3 (.int .i64)) (.int .i64)), f_impl_copyKeys d.1⟩]) (orcX 8 [.val TyHead, .val TySigned] (fun d => g_impl_MayFollow d.1 d.2.1) (fun d => [⟨.bool, f_impl_MayFollow d.1 d.2.1⟩]) nilO))
def O_impl_OwnersAfter : Orac := OP_impl_OwnersAfter N.impl_MayFollow G.impl_MayFollow N.impl_copyKeys G.impl_copyKeys
def impl_OwnersAfter_P {ρ : Type} (f_impl_MayFollow : THead → TSigned → Bool) (g_impl_MayFollow : THead → TSigned → Bool) (f_impl_copyKeys : TKeys → TKeys) (g_impl_copyKeys : TKeys → Bool) (k : TKeys → Option ρ) (a0 : THead) (a1 : TSigned) : Option ρ := (cond (g_impl_MayFollow a0 a1) (cond (f_impl_MayFollow a0 a1) (cond (g_impl_copyKeys a1.1.2.2.2.2.2.2.2.2.1) (k (f_impl_copyKeys a1.1.2.2.2.2.2.2.2.2.1)) none) (cond (g_impl_copyKeys a0.2.2.2.2.2.2.2.2.1) (k (f_impl_copyKeys a0.2.2.2.2.2.2.2.2.1)) none)) none)
theorem ok_impl_OwnersAfter : OracOk Tryz.prog sigs O_impl_OwnersAfter := (orcX_ok rfl rfl (fun d g => said_impl_copyKeys d.1 g) (orcX_ok rfl rfl (fun d g => said_impl_MayFollow d.1 d.2.1 g) nilO_ok))
def A_impl_OwnersAfter : Ann := fun b => ⟨[], []⟩
theorem aP_impl_OwnersAfter (f_impl_MayFollow : THead → TSigned → Bool) (g_impl_MayFollow : THead → TSigned → Bool) (f_impl_copyKeys : TKeys → TKeys) (g_impl_copyKeys : TKeys → Bool) (n : Nat) (a0 : THead) (a1 : TSigned) : absF tab sigs (OP_impl_OwnersAfter f_impl_MayFollow g_impl_MayFollow f_impl_copyKeys g_impl_copyKeys) A_impl_OwnersAfter Tryz.f11 [((.pair (.slice 3 (.int .i64)) (.int .i64)), (.pair (.own 0) .no))] n [.val TyHead a0, .val TySigned a1] = impl_OwnersAfter_P f_impl_MayFollow g_impl_MayFollow f_impl_copyKeys g_impl_copyKeys (fun r0 => some [⟨(.pair (.slice 3 (.int .i64)) (.int .i64)), r0⟩])  a0 a1 := by kernel_rfl
theorem a_impl_OwnersAfter (n : Nat) (a0 : THead) (a1 : TSigned) : absF tab sigs O_impl_OwnersAfter A_impl_OwnersAfter Tryz.f11 [((.pair (.slice 3 (.int .i64)) (.int .i64)), (.pair (.own 0) .no))] n [.val TyHead a0, .val TySigned a1] = impl_OwnersAfter (fun r0 => some [⟨(.pair (.slice 3 (.int .i64)) (.int .i64)), r0⟩])  a0 a1 := aP_impl_OwnersAfter N.impl_MayFollow G.impl_MayFollow N.impl_copyKeys G.impl_copyKeys n a0 a1
theorem said_impl_OwnersAfter (a0 : THead) (a1 : TSigned) (g : G.impl_OwnersAfter a0 a1 = true) : Said Tryz.prog sigs_11 11 [.val TyHead a0, .val TySigned a1] [⟨(.pair (.slice 3 (.int .i64)) (.int .i64)), N.impl_OwnersAfter a0 a1⟩] := said_len (T := tab) (A := A_impl_OwnersAfter) tabOk ok_impl_OwnersAfter tabOk.follows Tryz.func11 (by kernel_rfl) (by kernel_rfl) (fun hl => ⟨0, (a_impl_OwnersAfter 0 a0 a1).trans (impl_OwnersAfter_ok (ρ := Ret) (fun r0 => some [⟨(.pair (.slice 3 (.int .i64)) (.int .i64)), r0⟩]) a0 a1 hl.1 hl.2.1 g)⟩)
abbrev G.spec_DrawCanClaim (l : List Int) : Bool := decide (l.length ≤ 1048576)
abbrev N.spec_DrawCanClaim (l : List Int) : THead × Int := claimD l
def spec_DrawCanClaim {ρ : Type} (k : THead → Int → Option ρ) (a0 : (List Int)) : Option ρ := (cond (G.spec_l1New a0) (cond (G.spec_l13Any (N.spec_l1New a0)) (cond (G.spec_l1Below (N.spec_l13Any (N.spec_l1New a0)).1 (3 : Int)) (k (N.spec_l13Any (N.spec_l1New a0)).2 (IntKind.wrap .i64 ((IntKind.wrap .i64 ((IntKind.wrap .i64 ((N.spec_l13Any (N.spec_l1New a0)).2.2.2.2.2.1 + (N.spec_l13Any (N.spec_l1New a0)).2.2.2.2.2.2.2.2.2.2.2.1)) + (N.spec_l1Below (N.spec_l13Any (N.spec_l1New a0)).1 (3 : Int)).2)) - (1 : Int)))) none) none) none)
theorem spec_DrawCanClaim_ok {ρ : Type} (k : THead → Int → Option ρ) (a0 : (List Int)) (l_a0 : lnL (fun _ => True) a0) (g : G.spec_DrawCanClaim a0 = true) : spec_DrawCanClaim k  a0 = k (N.spec_DrawCanClaim a0).1 (N.spec_DrawCanClaim a0).2 := by
  unfold G.spec_DrawCanClaim at g
  have h0 := okC_new (of_decide_eq_true g)
  have h1 := okC_anyH h0
  simp only [spec_DrawCanClaim, G.spec_l1New, N.spec_l1New, G.spec_l13Any, N.spec_l13Any, G.spec_l1Below, N.spec_l1Below, g, h0, h1, cond_true]
  show _ = k (claimDp (anyH (newC a0))).1 (claimDp (anyH (newC a0))).2
  generalize anyH (newC a0) = r
  rfl
def OP_spec_DrawCanClaim (f_spec_l1New : (List Int) → TCur) (g_spec_l1New : (List Int) → Bool) (f_spec_l13Any : TCur → (TCur × THead)) (g_spec_l13Any : TCur → Bool) (f_spec_l1Below : TCur → Int → (TCur × Int)) (g_spec_l1Below : TCur → Int → Bool) : Orac := (orcX 41 [.lend (.pair (.slice 5 (.int .u8)) (.pair (.int .i64) (.int .i64))) .no, .val (.int .i64)] (fun d => g_spec_l1Below d.1 d.2.1) (fun d => [⟨(.pair (.slice 5 (.int .u8)) (.pair (.int .i64) (.int .i64))), (f_spec_l1Below d.1 d.2.1).1⟩, ⟨(.int .i64), (f_spec_l1Below d.1 d.2.1).2⟩]) (orcX 22 [.lend (.pair (.slice 5 (.int .u8)) (.pair (.int .i64) (.int .i64))) .no] (fun d => g_spec_l13Any d.1) (fun d => [⟨(.pair (.slice 5 (.int .u8)) (.pair (.int .i64) (.int .i64))), (f_spec_l13Any d.1).1⟩, ⟨TyHead, (f_spec_l13Any d.1).2⟩]) (orcX 19 [.lend .bool .nil, .val (.slice 5 (.int .u8))] (fun d => g_spec_l1New d.2.1) (fun d => [⟨(.pair (.slice 5 (.int .u8)) (.pair (.int .i64) (.int .i64))), f_spec_l1New d.2.1⟩]) nilO)))
def O_spec_DrawCanClaim : Orac := OP_spec_DrawCanClaim N.spec_l1New G.spec_l1New N.spec_l13Any G.spec_l13Any N.spec_l1Below G.spec_l1Below
def spec_DrawCanClaim_P {ρ : Type} (f_spec_l1New : (List Int) → TCur) (g_spec_l1New : (List Int) → Bool) (f_spec_l13Any : TCur → (TCur × THead)) (g_spec_l13Any : TCur → Bool) (f_spec_l1Below : TCur → Int → (TCur × Int)) (g_spec_l1Below : TCur → Int → Bool) (k : THead → Int → Option ρ) (a0 : (List Int)) : Option ρ := (cond (g_spec_l1New a0) (cond (g_spec_l13Any (f_spec_l1New a0)) (cond (g_spec_l1Below (f_spec_l13Any (f_spec_l1New a0)).1 (3 : Int)) (k (f_spec_l13Any (f_spec_l1New a0)).2 (IntKind.wrap .i64 ((IntKind.wrap .i64 ((IntKind.wrap .i64 ((f_spec_l13Any (f_spec_l1New a0)).2.2.2.2.2.1 + (f_spec_l13Any (f_spec_l1New a0)).2.2.2.2.2.2.2.2.2.2.2.1)) + (f_spec_l1Below (f_spec_l13Any (f_spec_l1New a0)).1 (3 : Int)).2)) - (1 : Int)))) none) none) none)
theorem ok_spec_DrawCanClaim : OracOk Tryz.prog sigs O_spec_DrawCanClaim := (orcB_ok rfl (fun d g => said_spec_l1Below d.1 d.2.1 g) (orcB_ok rfl (fun d g => said_spec_l13Any d.1 g) (orcN_ok rfl (fun d g => said_spec_l1New d.2.1 g) nilO_ok)))
def A_spec_DrawCanClaim : Ann := fun b => ⟨[], []⟩
theorem aP_spec_DrawCanClaim (f_spec_l1New : (List Int) → TCur) (g_spec_l1New : (List Int) → Bool) (f_spec_l13Any : TCur → (TCur × THead)) (g_spec_l13Any : TCur → Bool) (f_spec_l1Below : TCur → Int → (TCur × Int)) (g_spec_l1Below : TCur → Int → Bool) (n : Nat) (a0 : (List Int)) : absF tab sigs (OP_spec_DrawCanClaim f_spec_l1New g_spec_l1New f_spec_l13Any g_spec_l13Any f_spec_l1Below g_spec_l1Below) A_spec_DrawCanClaim Tryz.f16 [(TyHead, (.pair .no (.pair .no (.pair .no (.pair .no (.pair .no (.pair .no (.pair .no (.pair .no (.pair (.pair (.own 0) .no) (.pair (.pair (.own 1) .no) (.pair .no (.pair (.pair (.own 2) .no) .no))))))))))))), ((.int .i64), .no)] n [.val (.slice 5 (.int .u8)) a0] = spec_DrawCanClaim_P f_spec_l1New g_spec_l1New f_spec_l13Any g_spec_l13Any f_spec_l1Below g_spec_l1Below (fun r0 r1 => some [⟨TyHead, r0⟩, ⟨(.int .i64), r1⟩])  a0 := by kernel_rfl
theorem a_spec_DrawCanClaim (n : Nat) (a0 : (List Int)) : absF tab sigs O_spec_DrawCanClaim A_spec_DrawCanClaim Tryz.f16 [(TyHead, (.pair .no (.pair .no (.pair .no (.pair .no (.pair .no (.pair .no (.pair .no (.pair .no (.pair (.pair (.own 0) .no) (.pair (.pair (.own 1) .no) (.pair .no (.pair (.pair (.own 2) .no) .no))))))))))))), ((.int .i64), .no)] n [.val (.slice 5 (.int .u8)) a0] = spec_DrawCanClaim (fun r0 r1 => some [⟨TyHead, r0⟩, ⟨(.int .i64), r1⟩])  a0 := aP_spec_DrawCanClaim N.spec_l1New G.spec_l1New N.spec_l13Any G.spec_l13Any N.spec_l1Below G.spec_l1Below n a0
theorem said_spec_DrawCanClaim (a0 : (List Int)) (g : G.spec_DrawCanClaim a0 = true) : Said Tryz.prog sigs_16 16 [.val (.slice 5 (.int .u8)) a0] [⟨TyHead, (N.spec_DrawCanClaim a0).1⟩, ⟨(.int .i64), (N.spec_DrawCanClaim a0).2⟩] := said_len (T := tab) (A := A_spec_DrawCanClaim) tabOk ok_spec_DrawCanClaim tabOk.follows Tryz.func16 (by kernel_rfl) (by kernel_rfl) (fun hl => ⟨0, (a_spec_DrawCanClaim 0 a0).trans (spec_DrawCanClaim_ok (ρ := Ret) (fun r0 r1 => some [⟨TyHead, r0⟩, ⟨(.int .i64), r1⟩]) a0 hl.1 g)⟩)
abbrev N.impl_CanClaim (h : THead) (now : Int) : Bool := canClaim h now
def impl_CanClaim {ρ : Type} (k : Bool → Option ρ) (a0 : THead) (a1 : Int) : Option ρ := (cond (N.impl_IsHead a0) (cond (!a0.2.2.2.2.2.2.2.2.2.2.2.2) (cond (!(N.impl_NoKeys a0.2.2.2.2.2.2.2.2.2.1)) (k (decide (a1 ≥ (IntKind.wrap .i64 (a0.2.2.2.2.1 + a0.2.2.2.2.2.2.2.2.2.2.1))))) (k false)) (k false)) (k false))
theorem impl_CanClaim_ok {ρ : Type} (k : Bool → Option ρ) (a0 : THead) (a1 : Int) (l_a0 : (lenT TyHead a0)) : impl_CanClaim k  a0 a1 = k (N.impl_CanClaim a0 a1) := by
  simp only [impl_CanClaim, N.impl_IsHead, N.impl_NoKeys, N.impl_CanClaim, canClaim]
  cases isHead a0
  · rfl
  cases a0.2.2.2.2.2.2.2.2.2.2.2.2 <;> cases noKeys a0.2.2.2.2.2.2.2.2.2.1 <;> rfl
def OP_impl_CanClaim (f_impl_IsHead : THead → Bool) (f_impl_NoKeys : TKeys → Bool) : Orac := (orcX 40 [.val (.pair (.slice 3 (.int .i64)) (.int .i64))] (fun d => true) (fun d => [⟨.bool, f_impl_NoKeys d.1⟩]) (orcX 23 [.val TyHead] (fun d => true) (fun d => [⟨.bool, f_impl_IsHead d.1⟩]) nilO))
def O_impl_CanClaim : Orac := OP_impl_CanClaim N.impl_IsHead N.impl_NoKeys
def impl_CanClaim_P {ρ : Type} (f_impl_IsHead : THead → Bool) (f_impl_NoKeys : TKeys → Bool) (k : Bool → Option ρ) (a0 : THead) (a1 : Int) : Option ρ := (cond (f_impl_IsHead a0) (cond (!a0.2.2.2.2.2.2.2.2.2.2.2.2) (cond (!(f_impl_NoKeys a0.2.2.2.2.2.2.2.2.2.1)) (k (decide (a1 ≥ (IntKind.wrap .i64 (a0.2.2.2.2.1 + a0.2.2.2.2.2.2.2.2.2.2.1))))) (k false)) (k false)) (k false))
theorem ok_impl_CanClaim : OracOk Tryz.prog sigs O_impl_CanClaim := (orcX_ok rfl rfl (fun d g => said_impl_NoKeys d.1) (orcX_ok rfl rfl (fun d g => said_impl_IsHead d.1) nilO_ok))
def A_impl_CanClaim : Ann := fun b => ⟨[], []⟩
theorem aP_impl_CanClaim (f_impl_IsHead : THead → Bool) (f_impl_NoKeys : TKeys → Bool) (n : Nat) (a0 : THead) (a1 : Int) : absF tab sigs (OP_impl_CanClaim f_impl_IsHead f_impl_NoKeys) A_impl_CanClaim Tryz.f14 [(.bool, .no)] n [.val TyHead a0, .val (.int .i64) a1] = impl_CanClaim_P f_impl_IsHead f_impl_NoKeys (fun r0 => some [⟨.bool, r0⟩])  a0 a1 := by kernel_rfl
theorem a_impl_CanClaim (n : Nat) (a0 : THead) (a1 : Int) : absF tab sigs O_impl_CanClaim A_impl_CanClaim Tryz.f14 [(.bool, .no)] n [.val TyHead a0, .val (.int .i64) a1] = impl_CanClaim (fun r0 => some [⟨.bool, r0⟩])  a0 a1 := aP_impl_CanClaim N.impl_IsHead N.impl_NoKeys n a0 a1
theorem said_impl_CanClaim (a0 : THead) (a1 : Int) : Said Tryz.prog sigs_14 14 [.val TyHead a0, .val (.int .i64) a1] [⟨.bool, N.impl_CanClaim a0 a1⟩] := said_len (T := tab) (A := A_impl_CanClaim) tabOk ok_impl_CanClaim tabOk.follows Tryz.func14 (by kernel_rfl) (by kernel_rfl) (fun hl => ⟨0, (a_impl_CanClaim 0 a0 a1).trans (impl_CanClaim_ok (ρ := Ret) (fun r0 => some [⟨.bool, r0⟩]) a0 a1 hl.1)⟩)
abbrev N.spec_CanClaim (h : THead) (now : Int) : Bool := canClaim h now
def spec_CanClaim {ρ : Type} (k : Bool → Option ρ) (a0 : THead) (a1 : Int) : Option ρ := (cond (N.spec_IsHead a0) (cond (!a0.2.2.2.2.2.2.2.2.2.2.2.2) (cond (!(N.spec_NoKeys a0.2.2.2.2.2.2.2.2.2.1)) (k (decide (a1 ≥ (IntKind.wrap .i64 (a0.2.2.2.2.1 + a0.2.2.2.2.2.2.2.2.2.2.1))))) (k false)) (k false)) (k false))
theorem spec_CanClaim_ok {ρ : Type} (k : Bool → Option ρ) (a0 : THead) (a1 : Int) (l_a0 : (lenT TyHead a0)) : spec_CanClaim k  a0 a1 = k (N.spec_CanClaim a0 a1) := by
  simp only [spec_CanClaim, N.spec_IsHead, N.spec_NoKeys, N.spec_CanClaim, canClaim]
  cases isHead a0
  · rfl
  cases a0.2.2.2.2.2.2.2.2.2.2.2.2 <;> cases noKeys a0.2.2.2.2.2.2.2.2.2.1 <;> rfl
def OP_spec_CanClaim (f_spec_IsHead : THead → Bool) (f_spec_NoKeys : TKeys → Bool) : Orac := (orcX 44 [.val (.pair (.slice 3 (.int .i64)) (.int .i64))] (fun d => true) (fun d => [⟨.bool, f_spec_NoKeys d.1⟩]) (orcX 28 [.val TyHead] (fun d => true) (fun d => [⟨.bool, f_spec_IsHead d.1⟩]) nilO))
def O_spec_CanClaim : Orac := OP_spec_CanClaim N.spec_IsHead N.spec_NoKeys
def spec_CanClaim_P {ρ : Type} (f_spec_IsHead : THead → Bool) (f_spec_NoKeys : TKeys → Bool) (k : Bool → Option ρ) (a0 : THead) (a1 : Int) : Option ρ := (cond (f_spec_IsHead a0) (cond (!a0.2.2.2.2.2.2.2.2.2.2.2.2) (cond (!(f_spec_NoKeys a0.2.2.2.2.2.2.2.2.2.1)) (k (decide (a1 ≥ (IntKind.wrap .i64 (a0.2.2.2.2.1 + a0.2.2.2.2.2.2.2.2.2.2.1))))) (k false)) (k false)) (k false))
theorem ok_spec_CanClaim : OracOk Tryz.prog sigs O_spec_CanClaim := (orcX_ok rfl rfl (fun d g => said_spec_NoKeys d.1) (orcX_ok rfl rfl (fun d g => said_spec_IsHead d.1) nilO_ok))
def A_spec_CanClaim : Ann := fun b => ⟨[], []⟩
theorem aP_spec_CanClaim (f_spec_IsHead : THead → Bool) (f_spec_NoKeys : TKeys → Bool) (n : Nat) (a0 : THead) (a1 : Int) : absF tab sigs (OP_spec_CanClaim f_spec_IsHead f_spec_NoKeys) A_spec_CanClaim Tryz.f18 [(.bool, .no)] n [.val TyHead a0, .val (.int .i64) a1] = spec_CanClaim_P f_spec_IsHead f_spec_NoKeys (fun r0 => some [⟨.bool, r0⟩])  a0 a1 := by kernel_rfl
theorem a_spec_CanClaim (n : Nat) (a0 : THead) (a1 : Int) : absF tab sigs O_spec_CanClaim A_spec_CanClaim Tryz.f18 [(.bool, .no)] n [.val TyHead a0, .val (.int .i64) a1] = spec_CanClaim (fun r0 => some [⟨.bool, r0⟩])  a0 a1 := aP_spec_CanClaim N.spec_IsHead N.spec_NoKeys n a0 a1
theorem said_spec_CanClaim (a0 : THead) (a1 : Int) : Said Tryz.prog sigs_18 18 [.val TyHead a0, .val (.int .i64) a1] [⟨.bool, N.spec_CanClaim a0 a1⟩] := said_len (T := tab) (A := A_spec_CanClaim) tabOk ok_spec_CanClaim tabOk.follows Tryz.func18 (by kernel_rfl) (by kernel_rfl) (fun hl => ⟨0, (a_spec_CanClaim 0 a0 a1).trans (spec_CanClaim_ok (ρ := Ret) (fun r0 => some [⟨.bool, r0⟩]) a0 a1 hl.1)⟩)
end Go.Proofs.YtmhhbnonbnkhbaaGreat.Ref
