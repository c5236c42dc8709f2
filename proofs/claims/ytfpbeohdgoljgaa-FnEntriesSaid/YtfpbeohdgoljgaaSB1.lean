/- Functions of the program: what each computes, and that it does so.
   Conditions: as each theorem states. -/
import Derived.Test.YtfpbeohdgoljgaaSB0
set_option linter.unusedVariables false
set_option linter.unusedSimpArgs false
set_option maxRecDepth 100000
namespace Go.Proofs.Ytfpbeohdgoljgaa.Ref
open Go.RowKit Go.Proofs.YtfpbeohdgoljgaaW.PrintWords Go.Proofs.YtfpbeohdgoljgaaW.PrintLast
/-! spec.DrawMovedEntry -/
abbrev G.spec_DrawMovedEntry (l : List Int) : Bool := decide (l.length ≤ 1048576)
abbrev N.spec_DrawMovedEntry (l : List Int) : ByteArray × (Int × List ByteArray) := movedE l
def spec_DrawMovedEntry {ρ : Type} (k : ByteArray → Int → (List ByteArray) → Option ρ) (a0 : (List Int)) : Option ρ := (cond (G.spec_l1New a0) (cond (G.spec_l4Any (N.spec_l1New a0)) (cond (G.spec_l1Below (N.spec_l4Any (N.spec_l1New a0)).1 (99 : Int)) (cond (G.spec_l5Any (N.spec_l1Below (N.spec_l4Any (N.spec_l1New a0)).1 (99 : Int)).1) (k (N.spec_l4Any (N.spec_l1New a0)).2 (N.spec_l1Below (N.spec_l4Any (N.spec_l1New a0)).1 (99 : Int)).2 (N.spec_l5Any (N.spec_l1Below (N.spec_l4Any (N.spec_l1New a0)).1 (99 : Int)).1).2) none) none) none) none)
theorem spec_DrawMovedEntry_ok {ρ : Type} (k : ByteArray → Int → (List ByteArray) → Option ρ) (a0 : (List Int)) (l_a0 : lnL (fun _ => True) a0) (g : G.spec_DrawMovedEntry a0 = true) : spec_DrawMovedEntry k  a0 = k (N.spec_DrawMovedEntry a0).1 (N.spec_DrawMovedEntry a0).2.1 (N.spec_DrawMovedEntry a0).2.2 := by
  unfold G.spec_DrawMovedEntry at g
  have h0 := okC_new (of_decide_eq_true g)
  have h1 := okC_anyL h0
  have h2 := okC_below 99 h1
  simp only [spec_DrawMovedEntry, G.spec_l1New, N.spec_l1New, G.spec_l4Any, N.spec_l4Any, G.spec_l1Below, N.spec_l1Below, G.spec_l5Any, N.spec_l5Any, g, h0, h1, h2, cond_true]
  rfl
def OP_spec_DrawMovedEntry (f_spec_l1New : (List Int) → ((List Int) × (Int × Int))) (g_spec_l1New : (List Int) → Bool) (f_spec_l4Any : ((List Int) × (Int × Int)) → (((List Int) × (Int × Int)) × ByteArray)) (g_spec_l4Any : ((List Int) × (Int × Int)) → Bool) (f_spec_l1Below : ((List Int) × (Int × Int)) → Int → (((List Int) × (Int × Int)) × Int)) (g_spec_l1Below : ((List Int) × (Int × Int)) → Int → Bool) (f_spec_l5Any : ((List Int) × (Int × Int)) → (((List Int) × (Int × Int)) × (List ByteArray))) (g_spec_l5Any : ((List Int) × (Int × Int)) → Bool) : Orac := (orcX 27 [.lend (.pair (.slice 5 (.int .u8)) (.pair (.int .i64) (.int .i64))) .no] (fun d => g_spec_l5Any d.1) (fun d => [⟨(.pair (.slice 5 (.int .u8)) (.pair (.int .i64) (.int .i64))), (f_spec_l5Any d.1).1⟩, ⟨(.slice 9 .str), (f_spec_l5Any d.1).2⟩]) (orcX 26 [.lend (.pair (.slice 5 (.int .u8)) (.pair (.int .i64) (.int .i64))) .no, .val (.int .i64)] (fun d => g_spec_l1Below d.1 d.2.1) (fun d => [⟨(.pair (.slice 5 (.int .u8)) (.pair (.int .i64) (.int .i64))), (f_spec_l1Below d.1 d.2.1).1⟩, ⟨(.int .i64), (f_spec_l1Below d.1 d.2.1).2⟩]) (orcX 25 [.lend (.pair (.slice 5 (.int .u8)) (.pair (.int .i64) (.int .i64))) .no] (fun d => g_spec_l4Any d.1) (fun d => [⟨(.pair (.slice 5 (.int .u8)) (.pair (.int .i64) (.int .i64))), (f_spec_l4Any d.1).1⟩, ⟨.str, (f_spec_l4Any d.1).2⟩]) (orcX 21 [.lend .bool .nil, .val (.slice 5 (.int .u8))] (fun d => g_spec_l1New d.2.1) (fun d => [⟨(.pair (.slice 5 (.int .u8)) (.pair (.int .i64) (.int .i64))), f_spec_l1New d.2.1⟩]) nilO))))
def O_spec_DrawMovedEntry : Orac := OP_spec_DrawMovedEntry N.spec_l1New G.spec_l1New N.spec_l4Any G.spec_l4Any N.spec_l1Below G.spec_l1Below N.spec_l5Any G.spec_l5Any
def spec_DrawMovedEntry_P {ρ : Type} (f_spec_l1New : (List Int) → ((List Int) × (Int × Int))) (g_spec_l1New : (List Int) → Bool) (f_spec_l4Any : ((List Int) × (Int × Int)) → (((List Int) × (Int × Int)) × ByteArray)) (g_spec_l4Any : ((List Int) × (Int × Int)) → Bool) (f_spec_l1Below : ((List Int) × (Int × Int)) → Int → (((List Int) × (Int × Int)) × Int)) (g_spec_l1Below : ((List Int) × (Int × Int)) → Int → Bool) (f_spec_l5Any : ((List Int) × (Int × Int)) → (((List Int) × (Int × Int)) × (List ByteArray))) (g_spec_l5Any : ((List Int) × (Int × Int)) → Bool) (k : ByteArray → Int → (List ByteArray) → Option ρ) (a0 : (List Int)) : Option ρ := (cond (g_spec_l1New a0) (cond (g_spec_l4Any (f_spec_l1New a0)) (cond (g_spec_l1Below (f_spec_l4Any (f_spec_l1New a0)).1 (99 : Int)) (cond (g_spec_l5Any (f_spec_l1Below (f_spec_l4Any (f_spec_l1New a0)).1 (99 : Int)).1) (k (f_spec_l4Any (f_spec_l1New a0)).2 (f_spec_l1Below (f_spec_l4Any (f_spec_l1New a0)).1 (99 : Int)).2 (f_spec_l5Any (f_spec_l1Below (f_spec_l4Any (f_spec_l1New a0)).1 (99 : Int)).1).2) none) none) none) none)
theorem ok_spec_DrawMovedEntry : OracOk Try.prog sigs O_spec_DrawMovedEntry := (orcB_ok rfl (fun d g => said_spec_l5Any d.1 g) (orcB_ok rfl (fun d g => said_spec_l1Below d.1 d.2.1 g) (orcB_ok rfl (fun d g => said_spec_l4Any d.1 g) (orcN_ok rfl (fun d g => said_spec_l1New d.2.1 g) nilO_ok))))
def A_spec_DrawMovedEntry : Ann := fun b => ⟨[], []⟩
theorem aP_spec_DrawMovedEntry (f_spec_l1New : (List Int) → ((List Int) × (Int × Int))) (g_spec_l1New : (List Int) → Bool) (f_spec_l4Any : ((List Int) × (Int × Int)) → (((List Int) × (Int × Int)) × ByteArray)) (g_spec_l4Any : ((List Int) × (Int × Int)) → Bool) (f_spec_l1Below : ((List Int) × (Int × Int)) → Int → (((List Int) × (Int × Int)) × Int)) (g_spec_l1Below : ((List Int) × (Int × Int)) → Int → Bool) (f_spec_l5Any : ((List Int) × (Int × Int)) → (((List Int) × (Int × Int)) × (List ByteArray))) (g_spec_l5Any : ((List Int) × (Int × Int)) → Bool) (n : Nat) (a0 : (List Int)) : absF tab sigs (OP_spec_DrawMovedEntry f_spec_l1New g_spec_l1New f_spec_l4Any g_spec_l4Any f_spec_l1Below g_spec_l1Below f_spec_l5Any g_spec_l5Any) A_spec_DrawMovedEntry Try.f6 [(.str, .no), ((.int .i64), .no), ((.slice 9 .str), (.own 0))] n [.val (.slice 5 (.int .u8)) a0] = spec_DrawMovedEntry_P f_spec_l1New g_spec_l1New f_spec_l4Any g_spec_l4Any f_spec_l1Below g_spec_l1Below f_spec_l5Any g_spec_l5Any (fun r0 r1 r2 => some [⟨.str, r0⟩, ⟨(.int .i64), r1⟩, ⟨(.slice 9 .str), r2⟩])  a0 := by kernel_rfl
theorem a_spec_DrawMovedEntry (n : Nat) (a0 : (List Int)) : absF tab sigs O_spec_DrawMovedEntry A_spec_DrawMovedEntry Try.f6 [(.str, .no), ((.int .i64), .no), ((.slice 9 .str), (.own 0))] n [.val (.slice 5 (.int .u8)) a0] = spec_DrawMovedEntry (fun r0 r1 r2 => some [⟨.str, r0⟩, ⟨(.int .i64), r1⟩, ⟨(.slice 9 .str), r2⟩])  a0 := aP_spec_DrawMovedEntry N.spec_l1New G.spec_l1New N.spec_l4Any G.spec_l4Any N.spec_l1Below G.spec_l1Below N.spec_l5Any G.spec_l5Any n a0
theorem said_spec_DrawMovedEntry (a0 : (List Int)) (g : G.spec_DrawMovedEntry a0 = true) : Said Try.prog sigs_6 6 [.val (.slice 5 (.int .u8)) a0] [⟨.str, (N.spec_DrawMovedEntry a0).1⟩, ⟨(.int .i64), (N.spec_DrawMovedEntry a0).2.1⟩, ⟨(.slice 9 .str), (N.spec_DrawMovedEntry a0).2.2⟩] := said_len (T := tab) (A := A_spec_DrawMovedEntry) tabOk ok_spec_DrawMovedEntry tabOk.follows Try.func6 (by kernel_rfl) (by kernel_rfl) (fun hl => ⟨0, (a_spec_DrawMovedEntry 0 a0).trans (spec_DrawMovedEntry_ok (ρ := Ret) (fun r0 r1 r2 => some [⟨.str, r0⟩, ⟨(.int .i64), r1⟩, ⟨(.slice 9 .str), r2⟩]) a0 hl.1 g)⟩)
/-! impl.ValueEntry -/
abbrev N.impl_ValueEntry (s : ByteArray) (n : Int) : TEntry := (s, (1, (n, [])))
def impl_ValueEntry {ρ : Type} (k : TEntry → Option ρ) (a0 : ByteArray) (a1 : Int) : Option ρ := (k (a0, ((1 : Int), (a1, []))))
theorem impl_ValueEntry_ok {ρ : Type} (k : TEntry → Option ρ) (a0 : ByteArray) (a1 : Int) : impl_ValueEntry k  a0 a1 = k (N.impl_ValueEntry a0 a1) := by
  rfl
def O_impl_ValueEntry : Orac := nilO
theorem ok_impl_ValueEntry : OracOk Try.prog sigs O_impl_ValueEntry := nilO_ok
def A_impl_ValueEntry : Ann := fun b => ⟨[], []⟩
theorem a_impl_ValueEntry (n : Nat) (a0 : ByteArray) (a1 : Int) : absF tab sigs O_impl_ValueEntry A_impl_ValueEntry Try.f7 [(TyEntry, (.pair .no (.pair .no (.pair .no (.own 0)))))] n [.val .str a0, .val (.int .i64) a1] = impl_ValueEntry (fun r0 => some [⟨TyEntry, r0⟩])  a0 a1 := by kernel_rfl
theorem said_impl_ValueEntry (a0 : ByteArray) (a1 : Int) : Said Try.prog sigs_7 7 [.val .str a0, .val (.int .i64) a1] [⟨TyEntry, N.impl_ValueEntry a0 a1⟩] := said_len (T := tab) (A := A_impl_ValueEntry) tabOk ok_impl_ValueEntry tabOk.follows Try.func7 (by kernel_rfl) (by kernel_rfl) (fun hl => ⟨0, (a_impl_ValueEntry 0 a0 a1).trans (impl_ValueEntry_ok (ρ := Ret) (fun r0 => some [⟨TyEntry, r0⟩]) a0 a1)⟩)
/-! impl.ZoneEntry -/
abbrev N.impl_ZoneEntry (s : ByteArray) (n : Int) : TEntry := (s, (2, (n, [])))
def impl_ZoneEntry {ρ : Type} (k : TEntry → Option ρ) (a0 : ByteArray) (a1 : Int) : Option ρ := (k (a0, ((2 : Int), (a1, []))))
theorem impl_ZoneEntry_ok {ρ : Type} (k : TEntry → Option ρ) (a0 : ByteArray) (a1 : Int) : impl_ZoneEntry k  a0 a1 = k (N.impl_ZoneEntry a0 a1) := by
  rfl
def O_impl_ZoneEntry : Orac := nilO
theorem ok_impl_ZoneEntry : OracOk Try.prog sigs O_impl_ZoneEntry := nilO_ok
def A_impl_ZoneEntry : Ann := fun b => ⟨[], []⟩
theorem a_impl_ZoneEntry (n : Nat) (a0 : ByteArray) (a1 : Int) : absF tab sigs O_impl_ZoneEntry A_impl_ZoneEntry Try.f8 [(TyEntry, (.pair .no (.pair .no (.pair .no (.own 0)))))] n [.val .str a0, .val (.int .i64) a1] = impl_ZoneEntry (fun r0 => some [⟨TyEntry, r0⟩])  a0 a1 := by kernel_rfl
theorem said_impl_ZoneEntry (a0 : ByteArray) (a1 : Int) : Said Try.prog sigs_8 8 [.val .str a0, .val (.int .i64) a1] [⟨TyEntry, N.impl_ZoneEntry a0 a1⟩] := said_len (T := tab) (A := A_impl_ZoneEntry) tabOk ok_impl_ZoneEntry tabOk.follows Try.func8 (by kernel_rfl) (by kernel_rfl) (fun hl => ⟨0, (a_impl_ZoneEntry 0 a0 a1).trans (impl_ZoneEntry_ok (ρ := Ret) (fun r0 => some [⟨TyEntry, r0⟩]) a0 a1)⟩)
/-! slices.Clone[[]string,string] -/
abbrev G.slices_Clone_string (a : List ByteArray) : Bool := decide (a.length ≤ 1048576)
abbrev N.slices_Clone_string (a : List ByteArray) : List ByteArray := a
noncomputable def slices_Clone_string {ρ : Type} (k : (List ByteArray) → Option ρ) (a0 : (List ByteArray)) : Option ρ := (cond (List.isEmpty a0) (both (k []) (cond (fit (List.length ([] : (List ByteArray))) (List.length a0)) (k (List.append ([] : (List ByteArray)) a0)) none)) (cond (fit (List.length ([] : (List ByteArray))) (List.length a0)) (k (List.append ([] : (List ByteArray)) a0)) none))
theorem slices_Clone_string_ok {ρ : Type} (k : (List ByteArray) → Option ρ) (a0 : (List ByteArray)) (l_a0 : lnL (fun _ => True) a0) (g : G.slices_Clone_string a0 = true) : slices_Clone_string k  a0 = k (N.slices_Clone_string a0) := by
  unfold G.slices_Clone_string at g
  have h1 : fit (List.length ([] : List ByteArray)) (List.length a0) = true := fit_of (by have := of_decide_eq_true g; simp; omega)
  unfold slices_Clone_string
  rw [h1]
  cases a0 with
  | nil => exact both_self _
  | cons x l => rfl
def O_slices_Clone_string : Orac := nilO
theorem ok_slices_Clone_string : OracOk Try.prog sigs O_slices_Clone_string := nilO_ok
def A_slices_Clone_string : Ann := fun b => ⟨[], []⟩
theorem a_slices_Clone_string (n : Nat) (a0 : (List ByteArray)) : absF tab sigs O_slices_Clone_string A_slices_Clone_string Try.f28 [((.slice 9 .str), (.own 0))] n [.val (.slice 9 .str) a0] = slices_Clone_string (fun r0 => some [⟨(.slice 9 .str), r0⟩])  a0 := by kernel_rfl
theorem said_slices_Clone_string (a0 : (List ByteArray)) (g : G.slices_Clone_string a0 = true) : Said Try.prog sigs_28 28 [.val (.slice 9 .str) a0] [⟨(.slice 9 .str), N.slices_Clone_string a0⟩] := said_len (T := tab) (A := A_slices_Clone_string) tabOk ok_slices_Clone_string tabOk.follows Try.func28 (by kernel_rfl) (by kernel_rfl) (fun hl => ⟨0, (a_slices_Clone_string 0 a0).trans (slices_Clone_string_ok (ρ := Ret) (fun r0 => some [⟨(.slice 9 .str), r0⟩]) a0 hl.1 g)⟩)
/-! impl.MovedEntry -/
abbrev G.impl_MovedEntry (s : ByteArray) (i : Int) (p : List ByteArray) : Bool := decide (p.length ≤ 1048576)
abbrev N.impl_MovedEntry (s : ByteArray) (i : Int) (p : List ByteArray) : TEntry := (s, (3, (i, p)))
def impl_MovedEntry {ρ : Type} (k : TEntry → Option ρ) (a0 : ByteArray) (a1 : Int) (a2 : (List ByteArray)) : Option ρ := (cond (G.slices_Clone_string a2) (k (a0, ((3 : Int), (a1, (N.slices_Clone_string a2))))) none)
theorem impl_MovedEntry_ok {ρ : Type} (k : TEntry → Option ρ) (a0 : ByteArray) (a1 : Int) (a2 : (List ByteArray)) (l_a2 : lnL (fun _ => True) a2) (g : G.impl_MovedEntry a0 a1 a2 = true) : impl_MovedEntry k  a0 a1 a2 = k (N.impl_MovedEntry a0 a1 a2) := by
  unfold G.impl_MovedEntry at g
  show cond (decide (a2.length ≤ 1048576)) _ none = _
  rw [g]
  rfl
def OP_impl_MovedEntry (f_slices_Clone_string : (List ByteArray) → (List ByteArray)) (g_slices_Clone_string : (List ByteArray) → Bool) : Orac := (orcX 28 [.val (.slice 9 .str)] (fun d => g_slices_Clone_string d.1) (fun d => [⟨(.slice 9 .str), f_slices_Clone_string d.1⟩]) nilO)
def O_impl_MovedEntry : Orac := OP_impl_MovedEntry N.slices_Clone_string G.slices_Clone_string
def impl_MovedEntry_P {ρ : Type} (f_slices_Clone_string : (List ByteArray) → (List ByteArray)) (g_slices_Clone_string : (List ByteArray) → Bool) (k : TEntry → Option ρ) (a0 : ByteArray) (a1 : Int) (a2 : (List ByteArray)) : Option ρ := (cond (g_slices_Clone_string a2) (k (a0, ((3 : Int), (a1, (f_slices_Clone_string a2))))) none)
theorem ok_impl_MovedEntry : OracOk Try.prog sigs O_impl_MovedEntry := (orcX_ok rfl rfl (fun d g => said_slices_Clone_string d.1 g) nilO_ok)
def A_impl_MovedEntry : Ann := fun b => ⟨[], []⟩
theorem aP_impl_MovedEntry (f_slices_Clone_string : (List ByteArray) → (List ByteArray)) (g_slices_Clone_string : (List ByteArray) → Bool) (n : Nat) (a0 : ByteArray) (a1 : Int) (a2 : (List ByteArray)) : absF tab sigs (OP_impl_MovedEntry f_slices_Clone_string g_slices_Clone_string) A_impl_MovedEntry Try.f9 [(TyEntry, (.pair .no (.pair .no (.pair .no (.own 0)))))] n [.val .str a0, .val (.int .i64) a1, .val (.slice 9 .str) a2] = impl_MovedEntry_P f_slices_Clone_string g_slices_Clone_string (fun r0 => some [⟨TyEntry, r0⟩])  a0 a1 a2 := by kernel_rfl
theorem a_impl_MovedEntry (n : Nat) (a0 : ByteArray) (a1 : Int) (a2 : (List ByteArray)) : absF tab sigs O_impl_MovedEntry A_impl_MovedEntry Try.f9 [(TyEntry, (.pair .no (.pair .no (.pair .no (.own 0)))))] n [.val .str a0, .val (.int .i64) a1, .val (.slice 9 .str) a2] = impl_MovedEntry (fun r0 => some [⟨TyEntry, r0⟩])  a0 a1 a2 := aP_impl_MovedEntry N.slices_Clone_string G.slices_Clone_string n a0 a1 a2
theorem said_impl_MovedEntry (a0 : ByteArray) (a1 : Int) (a2 : (List ByteArray)) (g : G.impl_MovedEntry a0 a1 a2 = true) : Said Try.prog sigs_9 9 [.val .str a0, .val (.int .i64) a1, .val (.slice 9 .str) a2] [⟨TyEntry, N.impl_MovedEntry a0 a1 a2⟩] := said_len (T := tab) (A := A_impl_MovedEntry) tabOk ok_impl_MovedEntry tabOk.follows Try.func9 (by kernel_rfl) (by kernel_rfl) (fun hl => ⟨0, (a_impl_MovedEntry 0 a0 a1 a2).trans (impl_MovedEntry_ok (ρ := Ret) (fun r0 => some [⟨TyEntry, r0⟩]) a0 a1 a2 hl.2.2.1 g)⟩)
/-! impl.InRange -/
abbrev N.impl_InRange (n lo hi : Int) : Bool := inR n lo hi
def impl_InRange {ρ : Type} (k : Bool → Option ρ) (a0 : Int) (a1 : Int) (a2 : Int) : Option ρ := (cond (decide (a1 ≤ a0)) (k (decide (a0 ≤ a2))) (k false))
theorem impl_InRange_ok {ρ : Type} (k : Bool → Option ρ) (a0 : Int) (a1 : Int) (a2 : Int) : impl_InRange k  a0 a1 a2 = k (N.impl_InRange a0 a1 a2) := by
  simp only [impl_InRange, inR]
  cases decide (a1 ≤ a0) <;> rfl
def O_impl_InRange : Orac := nilO
theorem ok_impl_InRange : OracOk Try.prog sigs O_impl_InRange := nilO_ok
def A_impl_InRange : Ann := fun b => ⟨[], []⟩
theorem a_impl_InRange (n : Nat) (a0 : Int) (a1 : Int) (a2 : Int) : absF tab sigs O_impl_InRange A_impl_InRange Try.f29 [(.bool, .no)] n [.val (.int .i64) a0, .val (.int .i64) a1, .val (.int .i64) a2] = impl_InRange (fun r0 => some [⟨.bool, r0⟩])  a0 a1 a2 := by kernel_rfl
theorem said_impl_InRange (a0 : Int) (a1 : Int) (a2 : Int) : Said Try.prog sigs_29 29 [.val (.int .i64) a0, .val (.int .i64) a1, .val (.int .i64) a2] [⟨.bool, N.impl_InRange a0 a1 a2⟩] := said_len (T := tab) (A := A_impl_InRange) tabOk ok_impl_InRange tabOk.follows Try.func29 (by kernel_rfl) (by kernel_rfl) (fun hl => ⟨0, (a_impl_InRange 0 a0 a1 a2).trans (impl_InRange_ok (ρ := Ret) (fun r0 => some [⟨.bool, r0⟩]) a0 a1 a2)⟩)
/-! impl.IsLabel -/
abbrev G.impl_IsLabel (s : ByteArray) : Bool := decide (s.size ≤ 1048576)
abbrev N.impl_IsLabel (s : ByteArray) : Bool := isLabel s
def impl_IsLabel_L0 {ρ : Type} (k : Bool → Option ρ) (L0 : ByteArray → Int → Int → Option ρ) (v0_0 : ByteArray) (v0_1 : Int) (v0_2 : Int) : Option ρ := (cond (decide (v0_2 < v0_1)) (cond (inRange v0_2 (ByteArray.size v0_0)) (cond (decide ((bt v0_0 v0_2) ≥ (97 : Int))) (cond (decide ((bt v0_0 v0_2) ≤ (122 : Int))) (L0 v0_0 v0_1 (IntKind.wrap .i64 (v0_2 + (1 : Int)))) (cond (decide ((bt v0_0 v0_2) ≥ (48 : Int))) (cond (decide ((bt v0_0 v0_2) ≤ (57 : Int))) (L0 v0_0 v0_1 (IntKind.wrap .i64 (v0_2 + (1 : Int)))) (cond ((bt v0_0 v0_2) == (45 : Int)) (cond (decide (v0_2 > (0 : Int))) (cond (!(decide (v0_2 < (IntKind.wrap .i64 ((ByteArray.size v0_0 : Int) - (1 : Int)))))) (k false) (L0 v0_0 v0_1 (IntKind.wrap .i64 (v0_2 + (1 : Int))))) (k false)) (k false))) (cond ((bt v0_0 v0_2) == (45 : Int)) (cond (decide (v0_2 > (0 : Int))) (cond (!(decide (v0_2 < (IntKind.wrap .i64 ((ByteArray.size v0_0 : Int) - (1 : Int)))))) (k false) (L0 v0_0 v0_1 (IntKind.wrap .i64 (v0_2 + (1 : Int))))) (k false)) (k false)))) (cond (decide ((bt v0_0 v0_2) ≥ (48 : Int))) (cond (decide ((bt v0_0 v0_2) ≤ (57 : Int))) (L0 v0_0 v0_1 (IntKind.wrap .i64 (v0_2 + (1 : Int)))) (cond ((bt v0_0 v0_2) == (45 : Int)) (cond (decide (v0_2 > (0 : Int))) (cond (!(decide (v0_2 < (IntKind.wrap .i64 ((ByteArray.size v0_0 : Int) - (1 : Int)))))) (k false) (L0 v0_0 v0_1 (IntKind.wrap .i64 (v0_2 + (1 : Int))))) (k false)) (k false))) (cond ((bt v0_0 v0_2) == (45 : Int)) (cond (decide (v0_2 > (0 : Int))) (cond (!(decide (v0_2 < (IntKind.wrap .i64 ((ByteArray.size v0_0 : Int) - (1 : Int)))))) (k false) (L0 v0_0 v0_1 (IntKind.wrap .i64 (v0_2 + (1 : Int))))) (k false)) (k false)))) none) (k (N.impl_InRange (ByteArray.size v0_0 : Int) (1 : Int) (8 : Int))))
def impl_IsLabel {ρ : Type} (k : Bool → Option ρ) (L0 : ByteArray → Int → Int → Option ρ) (a0 : ByteArray) : Option ρ := (L0 a0 (ByteArray.size a0 : Int) (0 : Int))
theorem impl_IsLabel_ok {ρ : Type} (k : Bool → Option ρ) (a0 : ByteArray) (g : G.impl_IsLabel a0 = true) : ∃ n0, ∀ n, n0 ≤ n → ∀ (L0 : Nat → ByteArray → Int → Int → Option ρ) (h0 : ∀ ( m : Nat) (v0_0 : ByteArray) (v0_1 : Int) (v0_2 : Int), L0 (m + 1) v0_0 v0_1 v0_2 = impl_IsLabel_L0 k (L0 m) v0_0 v0_1 v0_2), impl_IsLabel k (L0 n) a0 = k (N.impl_IsLabel a0) := by
  unfold G.impl_IsLabel at g
  have hlen : a0.size ≤ 1048576 := of_decide_eq_true g
  refine ⟨a0.size + 1, fun n hn L0 h0 => ?_⟩
  show L0 n a0 (a0.size : Int) 0 = k (isLabel a0)
  have hrun := raw_run0 (σ := Unit) (s := ()) (L := fun m i _ => L0 m a0 (a0.size : Int) i) (R := fun i _ c => impl_IsLabel_L0 k (fun _ _ i => c i ()) a0 (a0.size : Int) i) (fun m i s => h0 m a0 (a0.size : Int) i) a0.size (fun _ _ => True) (fun j _ => cond (labelBytes a0 (a0.size - j) j) (k (inR (a0.size : Int) 1 8)) (k false)) (fun j s c hj _ hc => ?_) (fun s c _ => ?_) hn trivial
  · refine hrun.trans ?_
    unfold isLabel
    rw [Nat.sub_zero]
    cases labelBytes a0 a0.size 0 <;> cases inR (a0.size : Int) 1 8 <;> rfl
  · obtain ⟨m, hm⟩ : ∃ m, a0.size - j = m + 1 := ⟨a0.size - j - 1, by omega⟩
    have hm2 : a0.size - (j + 1) = m := by omega
    have hc' := hc () trivial
    rw [hm2] at hc'
    have e1 : decide ((j : Int) < IntKind.wrap .i64 ((a0.size : Int) - 1)) = decide (j + 1 < a0.size) := by rw [wrap_id (by omega) (by omega)]; simp only [decide_eq_decide]; omega
    have e2 : decide ((j : Int) > 0) = decide (0 < j) := by simp only [decide_eq_decide]; omega
    rw [hm]
    unfold labelBytes okByte isLetter
    simp only [impl_IsLabel_L0, lt_nat, inRange_nat, decide_eq_true hj, cond_true, wrap_succ (j := j) (by unfold big; omega), hc', e1, e2, ge_iff_le, N.impl_InRange]
    generalize bt a0 (j : Int) = b
    cases decide (97 ≤ b) <;> cases decide (b ≤ 122) <;> cases decide (48 ≤ b) <;> cases decide (b ≤ 57) <;> cases b == 45 <;> cases decide (0 < j) <;> cases decide (j + 1 < a0.size) <;> rfl
  · rw [Nat.sub_self]
    simp [impl_IsLabel_L0, labelBytes]
def OP_impl_IsLabel (f_impl_InRange : Int → Int → Int → Bool) : Orac := (orcX 29 [.val (.int .i64), .val (.int .i64), .val (.int .i64)] (fun d => true) (fun d => [⟨.bool, f_impl_InRange d.1 d.2.1 d.2.2.1⟩]) nilO)
def O_impl_IsLabel : Orac := OP_impl_IsLabel N.impl_InRange
def impl_IsLabel_P_L0 {ρ : Type} (f_impl_InRange : Int → Int → Int → Bool) (k : Bool → Option ρ) (L0 : ByteArray → Int → Int → Option ρ) (v0_0 : ByteArray) (v0_1 : Int) (v0_2 : Int) : Option ρ := (cond (decide (v0_2 < v0_1)) (cond (inRange v0_2 (ByteArray.size v0_0)) (cond (decide ((bt v0_0 v0_2) ≥ (97 : Int))) (cond (decide ((bt v0_0 v0_2) ≤ (122 : Int))) (L0 v0_0 v0_1 (IntKind.wrap .i64 (v0_2 + (1 : Int)))) (cond (decide ((bt v0_0 v0_2) ≥ (48 : Int))) (cond (decide ((bt v0_0 v0_2) ≤ (57 : Int))) (L0 v0_0 v0_1 (IntKind.wrap .i64 (v0_2 + (1 : Int)))) (cond ((bt v0_0 v0_2) == (45 : Int)) (cond (decide (v0_2 > (0 : Int))) (cond (!(decide (v0_2 < (IntKind.wrap .i64 ((ByteArray.size v0_0 : Int) - (1 : Int)))))) (k false) (L0 v0_0 v0_1 (IntKind.wrap .i64 (v0_2 + (1 : Int))))) (k false)) (k false))) (cond ((bt v0_0 v0_2) == (45 : Int)) (cond (decide (v0_2 > (0 : Int))) (cond (!(decide (v0_2 < (IntKind.wrap .i64 ((ByteArray.size v0_0 : Int) - (1 : Int)))))) (k false) (L0 v0_0 v0_1 (IntKind.wrap .i64 (v0_2 + (1 : Int))))) (k false)) (k false)))) (cond (decide ((bt v0_0 v0_2) ≥ (48 : Int))) (cond (decide ((bt v0_0 v0_2) ≤ (57 : Int))) (L0 v0_0 v0_1 (IntKind.wrap .i64 (v0_2 + (1 : Int)))) (cond ((bt v0_0 v0_2) == (45 : Int)) (cond (decide (v0_2 > (0 : Int))) (cond (!(decide (v0_2 < (IntKind.wrap .i64 ((ByteArray.size v0_0 : Int) - (1 : Int)))))) (k false) (L0 v0_0 v0_1 (IntKind.wrap .i64 (v0_2 + (1 : Int))))) (k false)) (k false))) (cond ((bt v0_0 v0_2) == (45 : Int)) (cond (decide (v0_2 > (0 : Int))) (cond (!(decide (v0_2 < (IntKind.wrap .i64 ((ByteArray.size v0_0 : Int) - (1 : Int)))))) (k false) (L0 v0_0 v0_1 (IntKind.wrap .i64 (v0_2 + (1 : Int))))) (k false)) (k false)))) none) (k (f_impl_InRange (ByteArray.size v0_0 : Int) (1 : Int) (8 : Int))))
def impl_IsLabel_P {ρ : Type} (f_impl_InRange : Int → Int → Int → Bool) (k : Bool → Option ρ) (L0 : ByteArray → Int → Int → Option ρ) (a0 : ByteArray) : Option ρ := (L0 a0 (ByteArray.size a0 : Int) (0 : Int))
theorem ok_impl_IsLabel : OracOk Try.prog sigs O_impl_IsLabel := (orcX_ok rfl rfl (fun d g => said_impl_InRange d.1 d.2.1 d.2.2.1) nilO_ok)
def A_impl_IsLabel : Ann := fun b => cond (Nat.beq b 0) ⟨[(0, false), (6, false), (7, false)], []⟩ (⟨[], []⟩)
def S_impl_IsLabel_0 (v0_0 : ByteArray) (v0_1 : Int) (v0_2 : Int) : St := [(kT 0, some (.tv (.v .str v0_0 .no))), (kT 6, some (.tv (.v (.int .i64) v0_1 .no))), (kT 7, some (.tv (.v (.int .i64) v0_2 .no)))]
noncomputable def L_P_impl_IsLabel_0 (f_impl_InRange : Int → Int → Int → Bool) (n m : Nat) : St → Option Ret := loopOf tab sigs (OP_impl_IsLabel f_impl_InRange) A_impl_IsLabel Try.f19 [(.bool, .no)] n (fun _ => 0) 0 m
noncomputable def L_impl_IsLabel_0 (n m : Nat) : St → Option Ret := L_P_impl_IsLabel_0 N.impl_InRange n m
theorem bP_impl_IsLabel_0 (f_impl_InRange : Int → Int → Int → Bool) (n m : Nat) (v0_0 : ByteArray) (v0_1 : Int) (v0_2 : Int) : L_P_impl_IsLabel_0 f_impl_InRange n (m + 1) (S_impl_IsLabel_0 v0_0 v0_1 v0_2) = impl_IsLabel_P_L0 f_impl_InRange (fun r0 => some [⟨.bool, r0⟩]) (fun v0_0 v0_1 v0_2 => L_P_impl_IsLabel_0 f_impl_InRange n m (S_impl_IsLabel_0 v0_0 v0_1 v0_2)) v0_0 v0_1 v0_2 := by kernel_rfl
theorem b_impl_IsLabel_0 (n m : Nat) (v0_0 : ByteArray) (v0_1 : Int) (v0_2 : Int) : L_impl_IsLabel_0 n (m + 1) (S_impl_IsLabel_0 v0_0 v0_1 v0_2) = impl_IsLabel_L0 (fun r0 => some [⟨.bool, r0⟩]) (fun v0_0 v0_1 v0_2 => L_impl_IsLabel_0 n m (S_impl_IsLabel_0 v0_0 v0_1 v0_2)) v0_0 v0_1 v0_2 := bP_impl_IsLabel_0 N.impl_InRange n m v0_0 v0_1 v0_2
theorem aP_impl_IsLabel (f_impl_InRange : Int → Int → Int → Bool) (n : Nat) (a0 : ByteArray) : absF tab sigs (OP_impl_IsLabel f_impl_InRange) A_impl_IsLabel Try.f19 [(.bool, .no)] n [.val .str a0] = impl_IsLabel_P f_impl_InRange (fun r0 => some [⟨.bool, r0⟩]) (fun v0_0 v0_1 v0_2 => L_P_impl_IsLabel_0 f_impl_InRange n n (S_impl_IsLabel_0 v0_0 v0_1 v0_2)) a0 := by kernel_rfl
theorem a_impl_IsLabel (n : Nat) (a0 : ByteArray) : absF tab sigs O_impl_IsLabel A_impl_IsLabel Try.f19 [(.bool, .no)] n [.val .str a0] = impl_IsLabel (fun r0 => some [⟨.bool, r0⟩]) (fun v0_0 v0_1 v0_2 => L_impl_IsLabel_0 n n (S_impl_IsLabel_0 v0_0 v0_1 v0_2)) a0 := aP_impl_IsLabel N.impl_InRange n a0
theorem said_impl_IsLabel (a0 : ByteArray) (g : G.impl_IsLabel a0 = true) : Said Try.prog sigs_19 19 [.val .str a0] [⟨.bool, N.impl_IsLabel a0⟩] := said_len (T := tab) (A := A_impl_IsLabel) tabOk ok_impl_IsLabel tabOk.follows Try.func19 (by kernel_rfl) (by kernel_rfl) (fun hl => let ⟨n, hn⟩ := impl_IsLabel_ok (ρ := Ret) (fun r0 => some [⟨.bool, r0⟩]) a0 g; ⟨n, (a_impl_IsLabel n a0).trans (hn n (Nat.le_refl n) (fun  m v0_0 v0_1 v0_2 => L_impl_IsLabel_0 n  m (S_impl_IsLabel_0 v0_0 v0_1 v0_2)) (fun  m v0_0 v0_1 v0_2 => b_impl_IsLabel_0 n  m v0_0 v0_1 v0_2))⟩)
/-! impl.isDigest -/
abbrev N.impl_isDigest (n : Int) : Bool := isDigest n
def impl_isDigest {ρ : Type} (k : Bool → Option ρ) (a0 : Int) : Option ρ := (k (N.impl_InRange a0 (0 : Int) (2147483646 : Int)))
theorem impl_isDigest_ok {ρ : Type} (k : Bool → Option ρ) (a0 : Int) : impl_isDigest k  a0 = k (N.impl_isDigest a0) := by
  rfl
def OP_impl_isDigest (f_impl_InRange : Int → Int → Int → Bool) : Orac := (orcX 29 [.val (.int .i64), .val (.int .i64), .val (.int .i64)] (fun d => true) (fun d => [⟨.bool, f_impl_InRange d.1 d.2.1 d.2.2.1⟩]) nilO)
def O_impl_isDigest : Orac := OP_impl_isDigest N.impl_InRange
def impl_isDigest_P {ρ : Type} (f_impl_InRange : Int → Int → Int → Bool) (k : Bool → Option ρ) (a0 : Int) : Option ρ := (k (f_impl_InRange a0 (0 : Int) (2147483646 : Int)))
theorem ok_impl_isDigest : OracOk Try.prog sigs O_impl_isDigest := (orcX_ok rfl rfl (fun d g => said_impl_InRange d.1 d.2.1 d.2.2.1) nilO_ok)
def A_impl_isDigest : Ann := fun b => ⟨[], []⟩
theorem aP_impl_isDigest (f_impl_InRange : Int → Int → Int → Bool) (n : Nat) (a0 : Int) : absF tab sigs (OP_impl_isDigest f_impl_InRange) A_impl_isDigest Try.f30 [(.bool, .no)] n [.val (.int .i64) a0] = impl_isDigest_P f_impl_InRange (fun r0 => some [⟨.bool, r0⟩])  a0 := by kernel_rfl
theorem a_impl_isDigest (n : Nat) (a0 : Int) : absF tab sigs O_impl_isDigest A_impl_isDigest Try.f30 [(.bool, .no)] n [.val (.int .i64) a0] = impl_isDigest (fun r0 => some [⟨.bool, r0⟩])  a0 := aP_impl_isDigest N.impl_InRange n a0
theorem said_impl_isDigest (a0 : Int) : Said Try.prog sigs_30 30 [.val (.int .i64) a0] [⟨.bool, N.impl_isDigest a0⟩] := said_len (T := tab) (A := A_impl_isDigest) tabOk ok_impl_isDigest tabOk.follows Try.func30 (by kernel_rfl) (by kernel_rfl) (fun hl => ⟨0, (a_impl_isDigest 0 a0).trans (impl_isDigest_ok (ρ := Ret) (fun r0 => some [⟨.bool, r0⟩]) a0)⟩)
/-! impl.IsPath$1 -/
abbrev G.impl_IsPath_s1 (s : ByteArray) : Bool := decide (s.size ≤ 1048576)
abbrev N.impl_IsPath_s1 (s : ByteArray) : Bool := !(isLabel s)
def impl_IsPath_s1 {ρ : Type} (k : Bool → Option ρ) (a0 : ByteArray) : Option ρ := (cond (G.impl_IsLabel a0) (k (!(N.impl_IsLabel a0))) none)
theorem impl_IsPath_s1_ok {ρ : Type} (k : Bool → Option ρ) (a0 : ByteArray) (g : G.impl_IsPath_s1 a0 = true) : impl_IsPath_s1 k  a0 = k (N.impl_IsPath_s1 a0) := by
  unfold G.impl_IsPath_s1 at g
  show cond (decide (a0.size ≤ 1048576)) _ none = _
  rw [g]
  rfl
def OP_impl_IsPath_s1 (f_impl_IsLabel : ByteArray → Bool) (g_impl_IsLabel : ByteArray → Bool) : Orac := (orcX 19 [.val .str] (fun d => g_impl_IsLabel d.1) (fun d => [⟨.bool, f_impl_IsLabel d.1⟩]) nilO)
def O_impl_IsPath_s1 : Orac := OP_impl_IsPath_s1 N.impl_IsLabel G.impl_IsLabel
def impl_IsPath_s1_P {ρ : Type} (f_impl_IsLabel : ByteArray → Bool) (g_impl_IsLabel : ByteArray → Bool) (k : Bool → Option ρ) (a0 : ByteArray) : Option ρ := (cond (g_impl_IsLabel a0) (k (!(f_impl_IsLabel a0))) none)
theorem ok_impl_IsPath_s1 : OracOk Try.prog sigs O_impl_IsPath_s1 := (orcX_ok rfl rfl (fun d g => said_impl_IsLabel d.1 g) nilO_ok)
def A_impl_IsPath_s1 : Ann := fun b => ⟨[], []⟩
theorem aP_impl_IsPath_s1 (f_impl_IsLabel : ByteArray → Bool) (g_impl_IsLabel : ByteArray → Bool) (n : Nat) (a0 : ByteArray) : absF tab sigs (OP_impl_IsPath_s1 f_impl_IsLabel g_impl_IsLabel) A_impl_IsPath_s1 Try.f42 [(.bool, .no)] n [.val .str a0] = impl_IsPath_s1_P f_impl_IsLabel g_impl_IsLabel (fun r0 => some [⟨.bool, r0⟩])  a0 := by kernel_rfl
theorem a_impl_IsPath_s1 (n : Nat) (a0 : ByteArray) : absF tab sigs O_impl_IsPath_s1 A_impl_IsPath_s1 Try.f42 [(.bool, .no)] n [.val .str a0] = impl_IsPath_s1 (fun r0 => some [⟨.bool, r0⟩])  a0 := aP_impl_IsPath_s1 N.impl_IsLabel G.impl_IsLabel n a0
theorem said_impl_IsPath_s1 (a0 : ByteArray) (g : G.impl_IsPath_s1 a0 = true) : Said Try.prog sigs_42 42 [.val .str a0] [⟨.bool, N.impl_IsPath_s1 a0⟩] := said_len (T := tab) (A := A_impl_IsPath_s1) tabOk ok_impl_IsPath_s1 tabOk.follows Try.func42 (by kernel_rfl) (by kernel_rfl) (fun hl => ⟨0, (a_impl_IsPath_s1 0 a0).trans (impl_IsPath_s1_ok (ρ := Ret) (fun r0 => some [⟨.bool, r0⟩]) a0 g)⟩)
/-! slices.IndexFunc[[]string,string] -/
abbrev G.slices_IndexFunc_string__impl_IsPath_s1 (p : List ByteArray) : Bool := decide (wP p ≤ 1048576)
abbrev N.slices_IndexFunc_string__impl_IsPath_s1 (p : List ByteArray) : Int := idxFrom (fun s => !(isLabel s)) 0 p
def slices_IndexFunc_string__impl_IsPath_s1_L0 {ρ : Type} (k : Int → Option ρ) (L0 : (List ByteArray) → Int → Int → Option ρ) (v0_0 : (List ByteArray)) (v0_1 : Int) (v0_2 : Int) : Option ρ := (cond (decide (v0_2 < v0_1)) (cond (inRange v0_2 (List.length v0_0)) (cond (G.impl_IsPath_s1 (List.getD v0_0 (Int.toNat v0_2) ByteArray.empty)) (cond (N.impl_IsPath_s1 (List.getD v0_0 (Int.toNat v0_2) ByteArray.empty)) (k v0_2) (L0 v0_0 v0_1 (IntKind.wrap .i64 (v0_2 + (1 : Int))))) none) none) (k (-1 : Int)))
def slices_IndexFunc_string__impl_IsPath_s1 {ρ : Type} (k : Int → Option ρ) (L0 : (List ByteArray) → Int → Int → Option ρ) (a0 : (List ByteArray)) : Option ρ := (L0 a0 (List.length a0 : Int) (0 : Int))
theorem slices_IndexFunc_string__impl_IsPath_s1_ok {ρ : Type} (k : Int → Option ρ) (a0 : (List ByteArray)) (l_a0 : lnL (fun _ => True) a0) (g : G.slices_IndexFunc_string__impl_IsPath_s1 a0 = true) : ∃ n0, ∀ n, n0 ≤ n → ∀ (L0 : Nat → (List ByteArray) → Int → Int → Option ρ) (h0 : ∀ ( m : Nat) (v0_0 : (List ByteArray)) (v0_1 : Int) (v0_2 : Int), L0 (m + 1) v0_0 v0_1 v0_2 = slices_IndexFunc_string__impl_IsPath_s1_L0 k (L0 m) v0_0 v0_1 v0_2), slices_IndexFunc_string__impl_IsPath_s1 k (L0 n) a0 = k (N.slices_IndexFunc_string__impl_IsPath_s1 a0) := by
  unfold G.slices_IndexFunc_string__impl_IsPath_s1 at g
  have hw : wP a0 ≤ 1048576 := of_decide_eq_true g
  have hl : a0.length ≤ 1048576 := by unfold wP at hw; omega
  refine ⟨a0.length + 1, fun n hn L0 h0 => ?_⟩
  refine raw_idx (a := a0) ByteArray.empty (fun s => !(isLabel s)) (k := k) (σ := Unit) (s := ()) (L := fun m i _ => L0 m a0 (a0.length : Int) i) (R := fun i s c => slices_IndexFunc_string__impl_IsPath_s1_L0 k (fun _ _ i => c i ()) a0 (a0.length : Int) i) (fun m i s => h0 m a0 (a0.length : Int) i) (fun j s c hj => ?_) (fun s c => ?_) hn
  · have hm := wP_mem (getD_mem (d := ByteArray.empty) hj)
    have g2 : decide ((a0.getD j ByteArray.empty).size ≤ 1048576) = true := by simp only [decide_eq_true_eq]; omega
    simp only [slices_IndexFunc_string__impl_IsPath_s1_L0, lt_nat, inRange_nat, decide_eq_true hj, cond_true, Int.toNat_natCast, G.impl_IsPath_s1, N.impl_IsPath_s1, g2, wrap_succ (j := j) (by unfold big; omega)]
  · simp [slices_IndexFunc_string__impl_IsPath_s1_L0]
def OP_slices_IndexFunc_string__impl_IsPath_s1 (f_impl_IsPath_s1 : ByteArray → Bool) (g_impl_IsPath_s1 : ByteArray → Bool) : Orac := (orcX 42 [.val .str] (fun d => g_impl_IsPath_s1 d.1) (fun d => [⟨.bool, f_impl_IsPath_s1 d.1⟩]) nilO)
def O_slices_IndexFunc_string__impl_IsPath_s1 : Orac := OP_slices_IndexFunc_string__impl_IsPath_s1 N.impl_IsPath_s1 G.impl_IsPath_s1
def slices_IndexFunc_string__impl_IsPath_s1_P_L0 {ρ : Type} (f_impl_IsPath_s1 : ByteArray → Bool) (g_impl_IsPath_s1 : ByteArray → Bool) (k : Int → Option ρ) (L0 : (List ByteArray) → Int → Int → Option ρ) (v0_0 : (List ByteArray)) (v0_1 : Int) (v0_2 : Int) : Option ρ := (cond (decide (v0_2 < v0_1)) (cond (inRange v0_2 (List.length v0_0)) (cond (g_impl_IsPath_s1 (List.getD v0_0 (Int.toNat v0_2) ByteArray.empty)) (cond (f_impl_IsPath_s1 (List.getD v0_0 (Int.toNat v0_2) ByteArray.empty)) (k v0_2) (L0 v0_0 v0_1 (IntKind.wrap .i64 (v0_2 + (1 : Int))))) none) none) (k (-1 : Int)))
def slices_IndexFunc_string__impl_IsPath_s1_P {ρ : Type} (f_impl_IsPath_s1 : ByteArray → Bool) (g_impl_IsPath_s1 : ByteArray → Bool) (k : Int → Option ρ) (L0 : (List ByteArray) → Int → Int → Option ρ) (a0 : (List ByteArray)) : Option ρ := (L0 a0 (List.length a0 : Int) (0 : Int))
theorem ok_slices_IndexFunc_string__impl_IsPath_s1 : OracOk Try.prog sigs O_slices_IndexFunc_string__impl_IsPath_s1 := (orcX_ok rfl rfl (fun d g => said_impl_IsPath_s1 d.1 g) nilO_ok)
def A_slices_IndexFunc_string__impl_IsPath_s1 : Ann := fun b => cond (Nat.beq b 0) ⟨[(0, false), (1, false), (7, false), (8, false)], []⟩ (⟨[], []⟩)
def S_slices_IndexFunc_string__impl_IsPath_s1_0 (v0_0 : (List ByteArray)) (v0_1 : Int) (v0_2 : Int) : St := [(kT 0, some (.tv (.v (.slice 9 .str) v0_0 .no))), (kT 1, some (.tv (.clo 42 []))), (kT 7, some (.tv (.v (.int .i64) v0_1 .no))), (kT 8, some (.tv (.v (.int .i64) v0_2 .no)))]
noncomputable def L_P_slices_IndexFunc_string__impl_IsPath_s1_0 (f_impl_IsPath_s1 : ByteArray → Bool) (g_impl_IsPath_s1 : ByteArray → Bool) (n m : Nat) : St → Option Ret := loopOf tab sigs (OP_slices_IndexFunc_string__impl_IsPath_s1 f_impl_IsPath_s1 g_impl_IsPath_s1) A_slices_IndexFunc_string__impl_IsPath_s1 Try.f53 [((.int .i64), .no)] n (fun _ => 0) 0 m
noncomputable def L_slices_IndexFunc_string__impl_IsPath_s1_0 (n m : Nat) : St → Option Ret := L_P_slices_IndexFunc_string__impl_IsPath_s1_0 N.impl_IsPath_s1 G.impl_IsPath_s1 n m
theorem bP_slices_IndexFunc_string__impl_IsPath_s1_0 (f_impl_IsPath_s1 : ByteArray → Bool) (g_impl_IsPath_s1 : ByteArray → Bool) (n m : Nat) (v0_0 : (List ByteArray)) (v0_1 : Int) (v0_2 : Int) : L_P_slices_IndexFunc_string__impl_IsPath_s1_0 f_impl_IsPath_s1 g_impl_IsPath_s1 n (m + 1) (S_slices_IndexFunc_string__impl_IsPath_s1_0 v0_0 v0_1 v0_2) = slices_IndexFunc_string__impl_IsPath_s1_P_L0 f_impl_IsPath_s1 g_impl_IsPath_s1 (fun r0 => some [⟨(.int .i64), r0⟩]) (fun v0_0 v0_1 v0_2 => L_P_slices_IndexFunc_string__impl_IsPath_s1_0 f_impl_IsPath_s1 g_impl_IsPath_s1 n m (S_slices_IndexFunc_string__impl_IsPath_s1_0 v0_0 v0_1 v0_2)) v0_0 v0_1 v0_2 := by kernel_rfl
theorem b_slices_IndexFunc_string__impl_IsPath_s1_0 (n m : Nat) (v0_0 : (List ByteArray)) (v0_1 : Int) (v0_2 : Int) : L_slices_IndexFunc_string__impl_IsPath_s1_0 n (m + 1) (S_slices_IndexFunc_string__impl_IsPath_s1_0 v0_0 v0_1 v0_2) = slices_IndexFunc_string__impl_IsPath_s1_L0 (fun r0 => some [⟨(.int .i64), r0⟩]) (fun v0_0 v0_1 v0_2 => L_slices_IndexFunc_string__impl_IsPath_s1_0 n m (S_slices_IndexFunc_string__impl_IsPath_s1_0 v0_0 v0_1 v0_2)) v0_0 v0_1 v0_2 := bP_slices_IndexFunc_string__impl_IsPath_s1_0 N.impl_IsPath_s1 G.impl_IsPath_s1 n m v0_0 v0_1 v0_2
theorem aP_slices_IndexFunc_string__impl_IsPath_s1 (f_impl_IsPath_s1 : ByteArray → Bool) (g_impl_IsPath_s1 : ByteArray → Bool) (n : Nat) (a0 : (List ByteArray)) : absF tab sigs (OP_slices_IndexFunc_string__impl_IsPath_s1 f_impl_IsPath_s1 g_impl_IsPath_s1) A_slices_IndexFunc_string__impl_IsPath_s1 Try.f53 [((.int .i64), .no)] n [.val (.slice 9 .str) a0, .clo 42 []] = slices_IndexFunc_string__impl_IsPath_s1_P f_impl_IsPath_s1 g_impl_IsPath_s1 (fun r0 => some [⟨(.int .i64), r0⟩]) (fun v0_0 v0_1 v0_2 => L_P_slices_IndexFunc_string__impl_IsPath_s1_0 f_impl_IsPath_s1 g_impl_IsPath_s1 n n (S_slices_IndexFunc_string__impl_IsPath_s1_0 v0_0 v0_1 v0_2)) a0 := by kernel_rfl
theorem a_slices_IndexFunc_string__impl_IsPath_s1 (n : Nat) (a0 : (List ByteArray)) : absF tab sigs O_slices_IndexFunc_string__impl_IsPath_s1 A_slices_IndexFunc_string__impl_IsPath_s1 Try.f53 [((.int .i64), .no)] n [.val (.slice 9 .str) a0, .clo 42 []] = slices_IndexFunc_string__impl_IsPath_s1 (fun r0 => some [⟨(.int .i64), r0⟩]) (fun v0_0 v0_1 v0_2 => L_slices_IndexFunc_string__impl_IsPath_s1_0 n n (S_slices_IndexFunc_string__impl_IsPath_s1_0 v0_0 v0_1 v0_2)) a0 := aP_slices_IndexFunc_string__impl_IsPath_s1 N.impl_IsPath_s1 G.impl_IsPath_s1 n a0
theorem said_slices_IndexFunc_string__impl_IsPath_s1 (a0 : (List ByteArray)) (g : G.slices_IndexFunc_string__impl_IsPath_s1 a0 = true) : Said Try.prog sigs_53 53 [.val (.slice 9 .str) a0, .clo 42 []] [⟨(.int .i64), N.slices_IndexFunc_string__impl_IsPath_s1 a0⟩] := said_len (T := tab) (A := A_slices_IndexFunc_string__impl_IsPath_s1) tabOk ok_slices_IndexFunc_string__impl_IsPath_s1 tabOk.follows Try.func53 (by kernel_rfl) (by kernel_rfl) (fun hl => let ⟨n, hn⟩ := slices_IndexFunc_string__impl_IsPath_s1_ok (ρ := Ret) (fun r0 => some [⟨(.int .i64), r0⟩]) a0 hl.1 g; ⟨n, (a_slices_IndexFunc_string__impl_IsPath_s1 n a0).trans (hn n (Nat.le_refl n) (fun  m v0_0 v0_1 v0_2 => L_slices_IndexFunc_string__impl_IsPath_s1_0 n  m (S_slices_IndexFunc_string__impl_IsPath_s1_0 v0_0 v0_1 v0_2)) (fun  m v0_0 v0_1 v0_2 => b_slices_IndexFunc_string__impl_IsPath_s1_0 n  m v0_0 v0_1 v0_2))⟩)
/-! slices.ContainsFunc[[]string,string] -/
abbrev G.slices_ContainsFunc_string__impl_IsPath_s1 (p : List ByteArray) : Bool := decide (wP p ≤ 1048576)
abbrev N.slices_ContainsFunc_string__impl_IsPath_s1 (p : List ByteArray) : Bool := p.any (fun s => !(isLabel s))
def slices_ContainsFunc_string__impl_IsPath_s1 {ρ : Type} (k : Bool → Option ρ) (a0 : (List ByteArray)) : Option ρ := (cond (G.slices_IndexFunc_string__impl_IsPath_s1 a0) (k (decide ((N.slices_IndexFunc_string__impl_IsPath_s1 a0) ≥ (0 : Int)))) none)
theorem slices_ContainsFunc_string__impl_IsPath_s1_ok {ρ : Type} (k : Bool → Option ρ) (a0 : (List ByteArray)) (l_a0 : lnL (fun _ => True) a0) (g : G.slices_ContainsFunc_string__impl_IsPath_s1 a0 = true) : slices_ContainsFunc_string__impl_IsPath_s1 k  a0 = k (N.slices_ContainsFunc_string__impl_IsPath_s1 a0) := by
  unfold G.slices_ContainsFunc_string__impl_IsPath_s1 at g
  show cond (decide (wP a0 ≤ 1048576)) _ none = _
  rw [g]
  show k (decide (idxFrom (fun s => !(isLabel s)) 0 a0 ≥ 0)) = _
  rw [idxFrom_any]
def OP_slices_ContainsFunc_string__impl_IsPath_s1 (f_slices_IndexFunc_string__impl_IsPath_s1 : (List ByteArray) → Int) (g_slices_IndexFunc_string__impl_IsPath_s1 : (List ByteArray) → Bool) : Orac := (orcX 53 [.val (.slice 9 .str), .clo 42 []] (fun d => g_slices_IndexFunc_string__impl_IsPath_s1 d.1) (fun d => [⟨(.int .i64), f_slices_IndexFunc_string__impl_IsPath_s1 d.1⟩]) nilO)
def O_slices_ContainsFunc_string__impl_IsPath_s1 : Orac := OP_slices_ContainsFunc_string__impl_IsPath_s1 N.slices_IndexFunc_string__impl_IsPath_s1 G.slices_IndexFunc_string__impl_IsPath_s1
def slices_ContainsFunc_string__impl_IsPath_s1_P {ρ : Type} (f_slices_IndexFunc_string__impl_IsPath_s1 : (List ByteArray) → Int) (g_slices_IndexFunc_string__impl_IsPath_s1 : (List ByteArray) → Bool) (k : Bool → Option ρ) (a0 : (List ByteArray)) : Option ρ := (cond (g_slices_IndexFunc_string__impl_IsPath_s1 a0) (k (decide ((f_slices_IndexFunc_string__impl_IsPath_s1 a0) ≥ (0 : Int)))) none)
theorem ok_slices_ContainsFunc_string__impl_IsPath_s1 : OracOk Try.prog sigs O_slices_ContainsFunc_string__impl_IsPath_s1 := (orcX_ok rfl rfl (fun d g => said_slices_IndexFunc_string__impl_IsPath_s1 d.1 g) nilO_ok)
def A_slices_ContainsFunc_string__impl_IsPath_s1 : Ann := fun b => ⟨[], []⟩
theorem aP_slices_ContainsFunc_string__impl_IsPath_s1 (f_slices_IndexFunc_string__impl_IsPath_s1 : (List ByteArray) → Int) (g_slices_IndexFunc_string__impl_IsPath_s1 : (List ByteArray) → Bool) (n : Nat) (a0 : (List ByteArray)) : absF tab sigs (OP_slices_ContainsFunc_string__impl_IsPath_s1 f_slices_IndexFunc_string__impl_IsPath_s1 g_slices_IndexFunc_string__impl_IsPath_s1) A_slices_ContainsFunc_string__impl_IsPath_s1 Try.f41 [(.bool, .no)] n [.val (.slice 9 .str) a0, .clo 42 []] = slices_ContainsFunc_string__impl_IsPath_s1_P f_slices_IndexFunc_string__impl_IsPath_s1 g_slices_IndexFunc_string__impl_IsPath_s1 (fun r0 => some [⟨.bool, r0⟩])  a0 := by kernel_rfl
theorem a_slices_ContainsFunc_string__impl_IsPath_s1 (n : Nat) (a0 : (List ByteArray)) : absF tab sigs O_slices_ContainsFunc_string__impl_IsPath_s1 A_slices_ContainsFunc_string__impl_IsPath_s1 Try.f41 [(.bool, .no)] n [.val (.slice 9 .str) a0, .clo 42 []] = slices_ContainsFunc_string__impl_IsPath_s1 (fun r0 => some [⟨.bool, r0⟩])  a0 := aP_slices_ContainsFunc_string__impl_IsPath_s1 N.slices_IndexFunc_string__impl_IsPath_s1 G.slices_IndexFunc_string__impl_IsPath_s1 n a0
theorem said_slices_ContainsFunc_string__impl_IsPath_s1 (a0 : (List ByteArray)) (g : G.slices_ContainsFunc_string__impl_IsPath_s1 a0 = true) : Said Try.prog sigs_41 41 [.val (.slice 9 .str) a0, .clo 42 []] [⟨.bool, N.slices_ContainsFunc_string__impl_IsPath_s1 a0⟩] := said_len (T := tab) (A := A_slices_ContainsFunc_string__impl_IsPath_s1) tabOk ok_slices_ContainsFunc_string__impl_IsPath_s1 tabOk.follows Try.func41 (by kernel_rfl) (by kernel_rfl) (fun hl => ⟨0, (a_slices_ContainsFunc_string__impl_IsPath_s1 0 a0).trans (slices_ContainsFunc_string__impl_IsPath_s1_ok (ρ := Ret) (fun r0 => some [⟨.bool, r0⟩]) a0 hl.1 g)⟩)
/-! impl.IsPath -/
abbrev G.impl_IsPath (p : List ByteArray) : Bool := decide (wP p ≤ 1048576)
abbrev N.impl_IsPath (p : List ByteArray) : Bool := isPath p
def impl_IsPath {ρ : Type} (k : Bool → Option ρ) (a0 : (List ByteArray)) : Option ρ := (cond (N.impl_InRange (List.length a0 : Int) (1 : Int) (4 : Int)) (cond (G.slices_ContainsFunc_string__impl_IsPath_s1 a0) (k (!(N.slices_ContainsFunc_string__impl_IsPath_s1 a0))) none) (k false))
theorem impl_IsPath_ok {ρ : Type} (k : Bool → Option ρ) (a0 : (List ByteArray)) (l_a0 : lnL (fun _ => True) a0) (g : G.impl_IsPath a0 = true) : impl_IsPath k  a0 = k (N.impl_IsPath a0) := by
  unfold G.impl_IsPath at g
  show cond (inR (a0.length : Int) 1 4) (cond (decide (wP a0 ≤ 1048576)) (k (!(a0.any (fun s => !(isLabel s))))) none) (k false) = k (inR (a0.length : Int) 1 4 && a0.all isLabel)
  rw [g, any_not]
  cases inR (a0.length : Int) 1 4 <;> rfl
def OP_impl_IsPath (f_impl_InRange : Int → Int → Int → Bool) (f_slices_ContainsFunc_string__impl_IsPath_s1 : (List ByteArray) → Bool) (g_slices_ContainsFunc_string__impl_IsPath_s1 : (List ByteArray) → Bool) : Orac := (orcX 41 [.val (.slice 9 .str), .clo 42 []] (fun d => g_slices_ContainsFunc_string__impl_IsPath_s1 d.1) (fun d => [⟨.bool, f_slices_ContainsFunc_string__impl_IsPath_s1 d.1⟩]) (orcX 29 [.val (.int .i64), .val (.int .i64), .val (.int .i64)] (fun d => true) (fun d => [⟨.bool, f_impl_InRange d.1 d.2.1 d.2.2.1⟩]) nilO))
def O_impl_IsPath : Orac := OP_impl_IsPath N.impl_InRange N.slices_ContainsFunc_string__impl_IsPath_s1 G.slices_ContainsFunc_string__impl_IsPath_s1
def impl_IsPath_P {ρ : Type} (f_impl_InRange : Int → Int → Int → Bool) (f_slices_ContainsFunc_string__impl_IsPath_s1 : (List ByteArray) → Bool) (g_slices_ContainsFunc_string__impl_IsPath_s1 : (List ByteArray) → Bool) (k : Bool → Option ρ) (a0 : (List ByteArray)) : Option ρ := (cond (f_impl_InRange (List.length a0 : Int) (1 : Int) (4 : Int)) (cond (g_slices_ContainsFunc_string__impl_IsPath_s1 a0) (k (!(f_slices_ContainsFunc_string__impl_IsPath_s1 a0))) none) (k false))
theorem ok_impl_IsPath : OracOk Try.prog sigs O_impl_IsPath := (orcX_ok rfl rfl (fun d g => said_slices_ContainsFunc_string__impl_IsPath_s1 d.1 g) (orcX_ok rfl rfl (fun d g => said_impl_InRange d.1 d.2.1 d.2.2.1) nilO_ok))
def A_impl_IsPath : Ann := fun b => ⟨[], []⟩
theorem aP_impl_IsPath (f_impl_InRange : Int → Int → Int → Bool) (f_slices_ContainsFunc_string__impl_IsPath_s1 : (List ByteArray) → Bool) (g_slices_ContainsFunc_string__impl_IsPath_s1 : (List ByteArray) → Bool) (n : Nat) (a0 : (List ByteArray)) : absF tab sigs (OP_impl_IsPath f_impl_InRange f_slices_ContainsFunc_string__impl_IsPath_s1 g_slices_ContainsFunc_string__impl_IsPath_s1) A_impl_IsPath Try.f20 [(.bool, .no)] n [.val (.slice 9 .str) a0] = impl_IsPath_P f_impl_InRange f_slices_ContainsFunc_string__impl_IsPath_s1 g_slices_ContainsFunc_string__impl_IsPath_s1 (fun r0 => some [⟨.bool, r0⟩])  a0 := by kernel_rfl
theorem a_impl_IsPath (n : Nat) (a0 : (List ByteArray)) : absF tab sigs O_impl_IsPath A_impl_IsPath Try.f20 [(.bool, .no)] n [.val (.slice 9 .str) a0] = impl_IsPath (fun r0 => some [⟨.bool, r0⟩])  a0 := aP_impl_IsPath N.impl_InRange N.slices_ContainsFunc_string__impl_IsPath_s1 G.slices_ContainsFunc_string__impl_IsPath_s1 n a0
theorem said_impl_IsPath (a0 : (List ByteArray)) (g : G.impl_IsPath a0 = true) : Said Try.prog sigs_20 20 [.val (.slice 9 .str) a0] [⟨.bool, N.impl_IsPath a0⟩] := said_len (T := tab) (A := A_impl_IsPath) tabOk ok_impl_IsPath tabOk.follows Try.func20 (by kernel_rfl) (by kernel_rfl) (fun hl => ⟨0, (a_impl_IsPath 0 a0).trans (impl_IsPath_ok (ρ := Ret) (fun r0 => some [⟨.bool, r0⟩]) a0 hl.1 g)⟩)
/-! impl.IsEntry -/
abbrev G.impl_IsEntry (e : TEntry) : Bool := decide (wE e ≤ 1048576)
abbrev N.impl_IsEntry (e : TEntry) : Bool := isEntry e
def impl_IsEntry {ρ : Type} (k : Bool → Option ρ) (a0 : TEntry) : Option ρ := (cond (G.impl_IsLabel a0.1) (cond (!(N.impl_IsLabel a0.1)) (k false) (cond (a0.2.1 == (1 : Int)) (cond (N.impl_InRange a0.2.2.1 (0 : Int) (999999 : Int)) (k ((List.length a0.2.2.2 : Int) == (0 : Int))) (k false)) (cond (a0.2.1 == (2 : Int)) (cond (N.impl_isDigest a0.2.2.1) (k ((List.length a0.2.2.2 : Int) == (0 : Int))) (k false)) (cond (a0.2.1 == (3 : Int)) (cond (N.impl_isDigest a0.2.2.1) (cond (G.impl_IsPath a0.2.2.2) (k (N.impl_IsPath a0.2.2.2)) none) (k false)) (k false))))) none)
theorem impl_IsEntry_ok {ρ : Type} (k : Bool → Option ρ) (a0 : TEntry) (l_a0 : (True ∧ (True ∧ (True ∧ lnL (fun _ => True) a0.2.2.2)))) (g : G.impl_IsEntry a0 = true) : impl_IsEntry k  a0 = k (N.impl_IsEntry a0) := by
  unfold G.impl_IsEntry at g
  have hw : wE a0 ≤ 1048576 := of_decide_eq_true g
  have g1 : decide (a0.1.size ≤ 1048576) = true := by unfold wE at hw; simp; omega
  have g2 : decide (wP a0.2.2.2 ≤ 1048576) = true := by unfold wE at hw; simp; omega
  simp only [impl_IsEntry, G.impl_IsLabel, N.impl_IsLabel, G.impl_IsPath, N.impl_IsPath, N.impl_InRange, N.impl_isDigest, g1, g2, cond_true, isEntry]
  by_cases h1 : a0.2.1 = 1
  · have e1 : (a0.2.1 == 1) = true := by simp [h1]
    have e2 : (a0.2.1 == 2) = false := by simp [h1]
    have e3 : (a0.2.1 == 3) = false := by simp [h1]
    simp only [e1, e2, e3]
    cases isLabel a0.1 <;> cases inR a0.2.2.1 0 999999 <;> simp
  by_cases h2 : a0.2.1 = 2
  · have e1 : (a0.2.1 == 1) = false := by simp [h2]
    have e2 : (a0.2.1 == 2) = true := by simp [h2]
    have e3 : (a0.2.1 == 3) = false := by simp [h2]
    simp only [e1, e2, e3]
    cases isLabel a0.1 <;> cases isDigest a0.2.2.1 <;> simp
  have e1 : (a0.2.1 == 1) = false := by simp [h1]
  have e2 : (a0.2.1 == 2) = false := by simp [h2]
  simp only [e1, e2]
  cases a0.2.1 == 3 <;> cases isLabel a0.1 <;> cases isDigest a0.2.2.1 <;> simp
def OP_impl_IsEntry (f_impl_IsLabel : ByteArray → Bool) (g_impl_IsLabel : ByteArray → Bool) (f_impl_InRange : Int → Int → Int → Bool) (f_impl_isDigest : Int → Bool) (f_impl_IsPath : (List ByteArray) → Bool) (g_impl_IsPath : (List ByteArray) → Bool) : Orac := (orcX 20 [.val (.slice 9 .str)] (fun d => g_impl_IsPath d.1) (fun d => [⟨.bool, f_impl_IsPath d.1⟩]) (orcX 30 [.val (.int .i64)] (fun d => true) (fun d => [⟨.bool, f_impl_isDigest d.1⟩]) (orcX 29 [.val (.int .i64), .val (.int .i64), .val (.int .i64)] (fun d => true) (fun d => [⟨.bool, f_impl_InRange d.1 d.2.1 d.2.2.1⟩]) (orcX 19 [.val .str] (fun d => g_impl_IsLabel d.1) (fun d => [⟨.bool, f_impl_IsLabel d.1⟩]) nilO))))
def O_impl_IsEntry : Orac := OP_impl_IsEntry N.impl_IsLabel G.impl_IsLabel N.impl_InRange N.impl_isDigest N.impl_IsPath G.impl_IsPath
def impl_IsEntry_P {ρ : Type} (f_impl_IsLabel : ByteArray → Bool) (g_impl_IsLabel : ByteArray → Bool) (f_impl_InRange : Int → Int → Int → Bool) (f_impl_isDigest : Int → Bool) (f_impl_IsPath : (List ByteArray) → Bool) (g_impl_IsPath : (List ByteArray) → Bool) (k : Bool → Option ρ) (a0 : TEntry) : Option ρ := (cond (g_impl_IsLabel a0.1) (cond (!(f_impl_IsLabel a0.1)) (k false) (cond (a0.2.1 == (1 : Int)) (cond (f_impl_InRange a0.2.2.1 (0 : Int) (999999 : Int)) (k ((List.length a0.2.2.2 : Int) == (0 : Int))) (k false)) (cond (a0.2.1 == (2 : Int)) (cond (f_impl_isDigest a0.2.2.1) (k ((List.length a0.2.2.2 : Int) == (0 : Int))) (k false)) (cond (a0.2.1 == (3 : Int)) (cond (f_impl_isDigest a0.2.2.1) (cond (g_impl_IsPath a0.2.2.2) (k (f_impl_IsPath a0.2.2.2)) none) (k false)) (k false))))) none)
theorem ok_impl_IsEntry : OracOk Try.prog sigs O_impl_IsEntry := (orcX_ok rfl rfl (fun d g => said_impl_IsPath d.1 g) (orcX_ok rfl rfl (fun d g => said_impl_isDigest d.1) (orcX_ok rfl rfl (fun d g => said_impl_InRange d.1 d.2.1 d.2.2.1) (orcX_ok rfl rfl (fun d g => said_impl_IsLabel d.1 g) nilO_ok))))
def A_impl_IsEntry : Ann := fun b => ⟨[], []⟩
theorem aP_impl_IsEntry (f_impl_IsLabel : ByteArray → Bool) (g_impl_IsLabel : ByteArray → Bool) (f_impl_InRange : Int → Int → Int → Bool) (f_impl_isDigest : Int → Bool) (f_impl_IsPath : (List ByteArray) → Bool) (g_impl_IsPath : (List ByteArray) → Bool) (n : Nat) (a0 : TEntry) : absF tab sigs (OP_impl_IsEntry f_impl_IsLabel g_impl_IsLabel f_impl_InRange f_impl_isDigest f_impl_IsPath g_impl_IsPath) A_impl_IsEntry Try.f10 [(.bool, .no)] n [.val TyEntry a0] = impl_IsEntry_P f_impl_IsLabel g_impl_IsLabel f_impl_InRange f_impl_isDigest f_impl_IsPath g_impl_IsPath (fun r0 => some [⟨.bool, r0⟩])  a0 := by kernel_rfl
theorem a_impl_IsEntry (n : Nat) (a0 : TEntry) : absF tab sigs O_impl_IsEntry A_impl_IsEntry Try.f10 [(.bool, .no)] n [.val TyEntry a0] = impl_IsEntry (fun r0 => some [⟨.bool, r0⟩])  a0 := aP_impl_IsEntry N.impl_IsLabel G.impl_IsLabel N.impl_InRange N.impl_isDigest N.impl_IsPath G.impl_IsPath n a0
theorem said_impl_IsEntry (a0 : TEntry) (g : G.impl_IsEntry a0 = true) : Said Try.prog sigs_10 10 [.val TyEntry a0] [⟨.bool, N.impl_IsEntry a0⟩] := said_len (T := tab) (A := A_impl_IsEntry) tabOk ok_impl_IsEntry tabOk.follows Try.func10 (by kernel_rfl) (by kernel_rfl) (fun hl => ⟨0, (a_impl_IsEntry 0 a0).trans (impl_IsEntry_ok (ρ := Ret) (fun r0 => some [⟨.bool, r0⟩]) a0 hl.1 g)⟩)
/-! spec.l1In -/
abbrev N.spec_l1In (n lo hi : Int) : Bool := inR n lo hi
def spec_l1In {ρ : Type} (k : Bool → Option ρ) (a0 : Int) (a1 : Int) (a2 : Int) : Option ρ := (cond (decide (a0 ≥ a1)) (k (decide (a0 ≤ a2))) (k false))
theorem spec_l1In_ok {ρ : Type} (k : Bool → Option ρ) (a0 : Int) (a1 : Int) (a2 : Int) : spec_l1In k  a0 a1 a2 = k (N.spec_l1In a0 a1 a2) := by
  simp only [spec_l1In, inR, ge_iff_le]
  cases decide (a1 ≤ a0) <;> rfl
def O_spec_l1In : Orac := nilO
theorem ok_spec_l1In : OracOk Try.prog sigs O_spec_l1In := nilO_ok
def A_spec_l1In : Ann := fun b => ⟨[], []⟩
theorem a_spec_l1In (n : Nat) (a0 : Int) (a1 : Int) (a2 : Int) : absF tab sigs O_spec_l1In A_spec_l1In Try.f32 [(.bool, .no)] n [.val (.int .i64) a0, .val (.int .i64) a1, .val (.int .i64) a2] = spec_l1In (fun r0 => some [⟨.bool, r0⟩])  a0 a1 a2 := by kernel_rfl
theorem said_spec_l1In (a0 : Int) (a1 : Int) (a2 : Int) : Said Try.prog sigs_32 32 [.val (.int .i64) a0, .val (.int .i64) a1, .val (.int .i64) a2] [⟨.bool, N.spec_l1In a0 a1 a2⟩] := said_len (T := tab) (A := A_spec_l1In) tabOk ok_spec_l1In tabOk.follows Try.func32 (by kernel_rfl) (by kernel_rfl) (fun hl => ⟨0, (a_spec_l1In 0 a0 a1 a2).trans (spec_l1In_ok (ρ := Ret) (fun r0 => some [⟨.bool, r0⟩]) a0 a1 a2)⟩)
/-! spec.IsLabel -/
abbrev G.spec_IsLabel (s : ByteArray) : Bool := decide (s.size ≤ 1048576)
abbrev N.spec_IsLabel (s : ByteArray) : Bool := isLabel s
def spec_IsLabel_L0 {ρ : Type} (k : Bool → Option ρ) (L0 : ByteArray → Int → Option ρ) (v0_0 : ByteArray) (v0_1 : Int) : Option ρ := (cond (decide (v0_1 < (ByteArray.size v0_0 : Int))) (cond (inRange v0_1 (ByteArray.size v0_0)) (cond (decide ((bt v0_0 v0_1) < (97 : Int))) (cond (inRange v0_1 (ByteArray.size v0_0)) (cond (decide ((bt v0_0 v0_1) < (48 : Int))) (cond (inRange v0_1 (ByteArray.size v0_0)) (cond ((bt v0_0 v0_1) != (45 : Int)) (k false) (L0 v0_0 (IntKind.wrap .i64 (v0_1 + (1 : Int))))) none) (cond (inRange v0_1 (ByteArray.size v0_0)) (cond (decide ((bt v0_0 v0_1) > (57 : Int))) (cond (inRange v0_1 (ByteArray.size v0_0)) (cond ((bt v0_0 v0_1) != (45 : Int)) (k false) (L0 v0_0 (IntKind.wrap .i64 (v0_1 + (1 : Int))))) none) (L0 v0_0 (IntKind.wrap .i64 (v0_1 + (1 : Int))))) none)) none) (cond (inRange v0_1 (ByteArray.size v0_0)) (cond (decide ((bt v0_0 v0_1) > (122 : Int))) (cond (inRange v0_1 (ByteArray.size v0_0)) (cond (decide ((bt v0_0 v0_1) < (48 : Int))) (cond (inRange v0_1 (ByteArray.size v0_0)) (cond ((bt v0_0 v0_1) != (45 : Int)) (k false) (L0 v0_0 (IntKind.wrap .i64 (v0_1 + (1 : Int))))) none) (cond (inRange v0_1 (ByteArray.size v0_0)) (cond (decide ((bt v0_0 v0_1) > (57 : Int))) (cond (inRange v0_1 (ByteArray.size v0_0)) (cond ((bt v0_0 v0_1) != (45 : Int)) (k false) (L0 v0_0 (IntKind.wrap .i64 (v0_1 + (1 : Int))))) none) (L0 v0_0 (IntKind.wrap .i64 (v0_1 + (1 : Int))))) none)) none) (L0 v0_0 (IntKind.wrap .i64 (v0_1 + (1 : Int))))) none)) none) (k true))
def spec_IsLabel {ρ : Type} (k : Bool → Option ρ) (L0 : ByteArray → Int → Option ρ) (a0 : ByteArray) : Option ρ := (cond (!(N.spec_l1In (ByteArray.size a0 : Int) (1 : Int) (8 : Int))) (k false) (cond (inRange (0 : Int) (ByteArray.size a0)) (cond ((bt a0 (0 : Int)) == (45 : Int)) (k false) (cond (inRange (IntKind.wrap .i64 ((ByteArray.size a0 : Int) - (1 : Int))) (ByteArray.size a0)) (cond ((bt a0 (IntKind.wrap .i64 ((ByteArray.size a0 : Int) - (1 : Int)))) == (45 : Int)) (k false) (L0 a0 (0 : Int))) none)) none))
theorem spec_IsLabel_ok {ρ : Type} (k : Bool → Option ρ) (a0 : ByteArray) (g : G.spec_IsLabel a0 = true) : ∃ n0, ∀ n, n0 ≤ n → ∀ (L0 : Nat → ByteArray → Int → Option ρ) (h0 : ∀ ( m : Nat) (v0_0 : ByteArray) (v0_1 : Int), L0 (m + 1) v0_0 v0_1 = spec_IsLabel_L0 k (L0 m) v0_0 v0_1), spec_IsLabel k (L0 n) a0 = k (N.spec_IsLabel a0) := by
  unfold G.spec_IsLabel at g
  have hlen : a0.size ≤ 1048576 := of_decide_eq_true g
  refine ⟨a0.size + 1, fun n hn L0 h0 => ?_⟩
  show spec_IsLabel k (L0 n) a0 = k (isLabel a0)
  unfold spec_IsLabel isLabel
  dsimp only [N.spec_l1In]
  cases hr : inR (a0.size : Int) 1 8 with
  | false => rfl
  | true =>
    have hr2 : 1 ≤ (a0.size : Int) ∧ (a0.size : Int) ≤ 8 := by simpa [inR] using hr
    have e0 : inRange 0 a0.size = true := by unfold inRange; simp; omega
    have e1 : IntKind.wrap .i64 ((a0.size : Int) - 1) = ((a0.size - 1 : Nat) : Int) := by rw [wrap_id (by omega) (by omega)]; omega
    have e2 : inRange ((a0.size - 1 : Nat) : Int) a0.size = true := by rw [inRange_nat]; simp; omega
    have hrun := raw_run0 (σ := Unit) (s := ()) (L := fun m i _ => L0 m a0 i) (R := fun i _ c => spec_IsLabel_L0 k (fun _ i => c i ()) a0 i) (fun m i s => h0 m a0 i) a0.size (fun _ _ => True) (fun j _ => k (charsFrom a0 (a0.size - j) j)) (fun j s c hj _ hc => ?_) (fun s c _ => ?_) hn trivial
    · rw [e1]
      simp only [e0, e2, cond_true, Bool.not_true, cond_false]
      rw [hrun, Nat.sub_zero, label_edges a0 (by omega)]
      cases bt a0 0 == 45 <;> cases bt a0 ((a0.size - 1 : Nat) : Int) == 45 <;> simp
    · obtain ⟨m, hm⟩ : ∃ m, a0.size - j = m + 1 := ⟨a0.size - j - 1, by omega⟩
      have hm2 : a0.size - (j + 1) = m := by omega
      have hc' := hc () trivial
      rw [hm2] at hc'
      rw [hm]
      unfold charsFrom
      simp only [spec_IsLabel_L0, lt_nat, inRange_nat, decide_eq_true hj, cond_true, wrap_succ (j := j) (by unfold big; omega), hc']
      generalize bt a0 (j : Int) = b
      exact char_spec k b _
    · rw [Nat.sub_self]
      simp [spec_IsLabel_L0, charsFrom]
def OP_spec_IsLabel (f_spec_l1In : Int → Int → Int → Bool) : Orac := (orcX 32 [.val (.int .i64), .val (.int .i64), .val (.int .i64)] (fun d => true) (fun d => [⟨.bool, f_spec_l1In d.1 d.2.1 d.2.2.1⟩]) nilO)
def O_spec_IsLabel : Orac := OP_spec_IsLabel N.spec_l1In
def spec_IsLabel_P_L0 {ρ : Type} (f_spec_l1In : Int → Int → Int → Bool) (k : Bool → Option ρ) (L0 : ByteArray → Int → Option ρ) (v0_0 : ByteArray) (v0_1 : Int) : Option ρ := (cond (decide (v0_1 < (ByteArray.size v0_0 : Int))) (cond (inRange v0_1 (ByteArray.size v0_0)) (cond (decide ((bt v0_0 v0_1) < (97 : Int))) (cond (inRange v0_1 (ByteArray.size v0_0)) (cond (decide ((bt v0_0 v0_1) < (48 : Int))) (cond (inRange v0_1 (ByteArray.size v0_0)) (cond ((bt v0_0 v0_1) != (45 : Int)) (k false) (L0 v0_0 (IntKind.wrap .i64 (v0_1 + (1 : Int))))) none) (cond (inRange v0_1 (ByteArray.size v0_0)) (cond (decide ((bt v0_0 v0_1) > (57 : Int))) (cond (inRange v0_1 (ByteArray.size v0_0)) (cond ((bt v0_0 v0_1) != (45 : Int)) (k false) (L0 v0_0 (IntKind.wrap .i64 (v0_1 + (1 : Int))))) none) (L0 v0_0 (IntKind.wrap .i64 (v0_1 + (1 : Int))))) none)) none) (cond (inRange v0_1 (ByteArray.size v0_0)) (cond (decide ((bt v0_0 v0_1) > (122 : Int))) (cond (inRange v0_1 (ByteArray.size v0_0)) (cond (decide ((bt v0_0 v0_1) < (48 : Int))) (cond (inRange v0_1 (ByteArray.size v0_0)) (cond ((bt v0_0 v0_1) != (45 : Int)) (k false) (L0 v0_0 (IntKind.wrap .i64 (v0_1 + (1 : Int))))) none) (cond (inRange v0_1 (ByteArray.size v0_0)) (cond (decide ((bt v0_0 v0_1) > (57 : Int))) (cond (inRange v0_1 (ByteArray.size v0_0)) (cond ((bt v0_0 v0_1) != (45 : Int)) (k false) (L0 v0_0 (IntKind.wrap .i64 (v0_1 + (1 : Int))))) none) (L0 v0_0 (IntKind.wrap .i64 (v0_1 + (1 : Int))))) none)) none) (L0 v0_0 (IntKind.wrap .i64 (v0_1 + (1 : Int))))) none)) none) (k true))
def spec_IsLabel_P {ρ : Type} (f_spec_l1In : Int → Int → Int → Bool) (k : Bool → Option ρ) (L0 : ByteArray → Int → Option ρ) (a0 : ByteArray) : Option ρ := (cond (!(f_spec_l1In (ByteArray.size a0 : Int) (1 : Int) (8 : Int))) (k false) (cond (inRange (0 : Int) (ByteArray.size a0)) (cond ((bt a0 (0 : Int)) == (45 : Int)) (k false) (cond (inRange (IntKind.wrap .i64 ((ByteArray.size a0 : Int) - (1 : Int))) (ByteArray.size a0)) (cond ((bt a0 (IntKind.wrap .i64 ((ByteArray.size a0 : Int) - (1 : Int)))) == (45 : Int)) (k false) (L0 a0 (0 : Int))) none)) none))
theorem ok_spec_IsLabel : OracOk Try.prog sigs O_spec_IsLabel := (orcX_ok rfl rfl (fun d g => said_spec_l1In d.1 d.2.1 d.2.2.1) nilO_ok)
def A_spec_IsLabel : Ann := fun b => cond (Nat.beq b 0) ⟨[(0, false), (3, false)], []⟩ (⟨[], []⟩)
def S_spec_IsLabel_0 (v0_0 : ByteArray) (v0_1 : Int) : St := [(kT 0, some (.tv (.v .str v0_0 .no))), (kT 3, some (.tv (.v (.int .i64) v0_1 .no)))]
noncomputable def L_P_spec_IsLabel_0 (f_spec_l1In : Int → Int → Int → Bool) (n m : Nat) : St → Option Ret := loopOf tab sigs (OP_spec_IsLabel f_spec_l1In) A_spec_IsLabel Try.f31 [(.bool, .no)] n (fun _ => 0) 0 m
noncomputable def L_spec_IsLabel_0 (n m : Nat) : St → Option Ret := L_P_spec_IsLabel_0 N.spec_l1In n m
theorem bP_spec_IsLabel_0 (f_spec_l1In : Int → Int → Int → Bool) (n m : Nat) (v0_0 : ByteArray) (v0_1 : Int) : L_P_spec_IsLabel_0 f_spec_l1In n (m + 1) (S_spec_IsLabel_0 v0_0 v0_1) = spec_IsLabel_P_L0 f_spec_l1In (fun r0 => some [⟨.bool, r0⟩]) (fun v0_0 v0_1 => L_P_spec_IsLabel_0 f_spec_l1In n m (S_spec_IsLabel_0 v0_0 v0_1)) v0_0 v0_1 := by kernel_rfl
theorem b_spec_IsLabel_0 (n m : Nat) (v0_0 : ByteArray) (v0_1 : Int) : L_spec_IsLabel_0 n (m + 1) (S_spec_IsLabel_0 v0_0 v0_1) = spec_IsLabel_L0 (fun r0 => some [⟨.bool, r0⟩]) (fun v0_0 v0_1 => L_spec_IsLabel_0 n m (S_spec_IsLabel_0 v0_0 v0_1)) v0_0 v0_1 := bP_spec_IsLabel_0 N.spec_l1In n m v0_0 v0_1
theorem aP_spec_IsLabel (f_spec_l1In : Int → Int → Int → Bool) (n : Nat) (a0 : ByteArray) : absF tab sigs (OP_spec_IsLabel f_spec_l1In) A_spec_IsLabel Try.f31 [(.bool, .no)] n [.val .str a0] = spec_IsLabel_P f_spec_l1In (fun r0 => some [⟨.bool, r0⟩]) (fun v0_0 v0_1 => L_P_spec_IsLabel_0 f_spec_l1In n n (S_spec_IsLabel_0 v0_0 v0_1)) a0 := by kernel_rfl
theorem a_spec_IsLabel (n : Nat) (a0 : ByteArray) : absF tab sigs O_spec_IsLabel A_spec_IsLabel Try.f31 [(.bool, .no)] n [.val .str a0] = spec_IsLabel (fun r0 => some [⟨.bool, r0⟩]) (fun v0_0 v0_1 => L_spec_IsLabel_0 n n (S_spec_IsLabel_0 v0_0 v0_1)) a0 := aP_spec_IsLabel N.spec_l1In n a0
theorem said_spec_IsLabel (a0 : ByteArray) (g : G.spec_IsLabel a0 = true) : Said Try.prog sigs_31 31 [.val .str a0] [⟨.bool, N.spec_IsLabel a0⟩] := said_len (T := tab) (A := A_spec_IsLabel) tabOk ok_spec_IsLabel tabOk.follows Try.func31 (by kernel_rfl) (by kernel_rfl) (fun hl => let ⟨n, hn⟩ := spec_IsLabel_ok (ρ := Ret) (fun r0 => some [⟨.bool, r0⟩]) a0 g; ⟨n, (a_spec_IsLabel n a0).trans (hn n (Nat.le_refl n) (fun  m v0_0 v0_1 => L_spec_IsLabel_0 n  m (S_spec_IsLabel_0 v0_0 v0_1)) (fun  m v0_0 v0_1 => b_spec_IsLabel_0 n  m v0_0 v0_1))⟩)
/-! spec.IsPath -/
abbrev G.spec_IsPath (p : List ByteArray) : Bool := decide (wP p ≤ 1048576)
abbrev N.spec_IsPath (p : List ByteArray) : Bool := isPath p
def spec_IsPath_L0 {ρ : Type} (k : Bool → Option ρ) (L0 : (List ByteArray) → Int → Option ρ) (v0_0 : (List ByteArray)) (v0_1 : Int) : Option ρ := (cond (decide (v0_1 < (List.length v0_0 : Int))) (cond (inRange v0_1 (List.length v0_0)) (cond (G.spec_IsLabel (List.getD v0_0 (Int.toNat v0_1) ByteArray.empty)) (cond (!(N.spec_IsLabel (List.getD v0_0 (Int.toNat v0_1) ByteArray.empty))) (k false) (L0 v0_0 (IntKind.wrap .i64 (v0_1 + (1 : Int))))) none) none) (k (N.spec_l1In (List.length v0_0 : Int) (1 : Int) (4 : Int))))
def spec_IsPath {ρ : Type} (k : Bool → Option ρ) (L0 : (List ByteArray) → Int → Option ρ) (a0 : (List ByteArray)) : Option ρ := (L0 a0 (0 : Int))
theorem spec_IsPath_ok {ρ : Type} (k : Bool → Option ρ) (a0 : (List ByteArray)) (l_a0 : lnL (fun _ => True) a0) (g : G.spec_IsPath a0 = true) : ∃ n0, ∀ n, n0 ≤ n → ∀ (L0 : Nat → (List ByteArray) → Int → Option ρ) (h0 : ∀ ( m : Nat) (v0_0 : (List ByteArray)) (v0_1 : Int), L0 (m + 1) v0_0 v0_1 = spec_IsPath_L0 k (L0 m) v0_0 v0_1), spec_IsPath k (L0 n) a0 = k (N.spec_IsPath a0) := by
  unfold G.spec_IsPath at g
  have hw : wP a0 ≤ 1048576 := of_decide_eq_true g
  have hl : a0.length ≤ 1048576 := by unfold wP at hw; omega
  refine ⟨a0.length + 1, fun n hn L0 h0 => ?_⟩
  refine (raw_all (a := a0) ByteArray.empty isLabel (σ := Unit) (s := ()) (r := k false) (e := fun _ => k (inR (a0.length : Int) 1 4)) (L := fun m i _ => L0 m a0 i) (R := fun i _ c => spec_IsPath_L0 k (fun _ i => c i ()) a0 i) (fun m i s => h0 m a0 i) (fun j s c hj => ?_) (fun s c => ?_) hn).trans ?_
  · have hm := wP_mem (getD_mem (d := ByteArray.empty) hj)
    have g2 : decide ((a0.getD j ByteArray.empty).size ≤ 1048576) = true := by simp only [decide_eq_true_eq]; omega
    simp only [spec_IsPath_L0, lt_nat, inRange_nat, decide_eq_true hj, cond_true, Int.toNat_natCast, G.spec_IsLabel, N.spec_IsLabel, g2, wrap_succ (j := j) (by unfold big; omega)]
    cases isLabel (a0.getD j ByteArray.empty) <;> rfl
  · simp [spec_IsPath_L0]
  · show _ = k (inR (a0.length : Int) 1 4 && a0.all isLabel)
    cases a0.all isLabel <;> cases inR (a0.length : Int) 1 4 <;> rfl
def OP_spec_IsPath (f_spec_IsLabel : ByteArray → Bool) (g_spec_IsLabel : ByteArray → Bool) (f_spec_l1In : Int → Int → Int → Bool) : Orac := (orcX 32 [.val (.int .i64), .val (.int .i64), .val (.int .i64)] (fun d => true) (fun d => [⟨.bool, f_spec_l1In d.1 d.2.1 d.2.2.1⟩]) (orcX 31 [.val .str] (fun d => g_spec_IsLabel d.1) (fun d => [⟨.bool, f_spec_IsLabel d.1⟩]) nilO))
def O_spec_IsPath : Orac := OP_spec_IsPath N.spec_IsLabel G.spec_IsLabel N.spec_l1In
def spec_IsPath_P_L0 {ρ : Type} (f_spec_IsLabel : ByteArray → Bool) (g_spec_IsLabel : ByteArray → Bool) (f_spec_l1In : Int → Int → Int → Bool) (k : Bool → Option ρ) (L0 : (List ByteArray) → Int → Option ρ) (v0_0 : (List ByteArray)) (v0_1 : Int) : Option ρ := (cond (decide (v0_1 < (List.length v0_0 : Int))) (cond (inRange v0_1 (List.length v0_0)) (cond (g_spec_IsLabel (List.getD v0_0 (Int.toNat v0_1) ByteArray.empty)) (cond (!(f_spec_IsLabel (List.getD v0_0 (Int.toNat v0_1) ByteArray.empty))) (k false) (L0 v0_0 (IntKind.wrap .i64 (v0_1 + (1 : Int))))) none) none) (k (f_spec_l1In (List.length v0_0 : Int) (1 : Int) (4 : Int))))
def spec_IsPath_P {ρ : Type} (f_spec_IsLabel : ByteArray → Bool) (g_spec_IsLabel : ByteArray → Bool) (f_spec_l1In : Int → Int → Int → Bool) (k : Bool → Option ρ) (L0 : (List ByteArray) → Int → Option ρ) (a0 : (List ByteArray)) : Option ρ := (L0 a0 (0 : Int))
theorem ok_spec_IsPath : OracOk Try.prog sigs O_spec_IsPath := (orcX_ok rfl rfl (fun d g => said_spec_l1In d.1 d.2.1 d.2.2.1) (orcX_ok rfl rfl (fun d g => said_spec_IsLabel d.1 g) nilO_ok))
def A_spec_IsPath : Ann := fun b => cond (Nat.beq b 0) ⟨[(0, false), (3, false)], []⟩ (⟨[], []⟩)
def S_spec_IsPath_0 (v0_0 : (List ByteArray)) (v0_1 : Int) : St := [(kT 0, some (.tv (.v (.slice 9 .str) v0_0 .no))), (kT 3, some (.tv (.v (.int .i64) v0_1 .no)))]
noncomputable def L_P_spec_IsPath_0 (f_spec_IsLabel : ByteArray → Bool) (g_spec_IsLabel : ByteArray → Bool) (f_spec_l1In : Int → Int → Int → Bool) (n m : Nat) : St → Option Ret := loopOf tab sigs (OP_spec_IsPath f_spec_IsLabel g_spec_IsLabel f_spec_l1In) A_spec_IsPath Try.f33 [(.bool, .no)] n (fun _ => 0) 0 m
noncomputable def L_spec_IsPath_0 (n m : Nat) : St → Option Ret := L_P_spec_IsPath_0 N.spec_IsLabel G.spec_IsLabel N.spec_l1In n m
theorem bP_spec_IsPath_0 (f_spec_IsLabel : ByteArray → Bool) (g_spec_IsLabel : ByteArray → Bool) (f_spec_l1In : Int → Int → Int → Bool) (n m : Nat) (v0_0 : (List ByteArray)) (v0_1 : Int) : L_P_spec_IsPath_0 f_spec_IsLabel g_spec_IsLabel f_spec_l1In n (m + 1) (S_spec_IsPath_0 v0_0 v0_1) = spec_IsPath_P_L0 f_spec_IsLabel g_spec_IsLabel f_spec_l1In (fun r0 => some [⟨.bool, r0⟩]) (fun v0_0 v0_1 => L_P_spec_IsPath_0 f_spec_IsLabel g_spec_IsLabel f_spec_l1In n m (S_spec_IsPath_0 v0_0 v0_1)) v0_0 v0_1 := by kernel_rfl
theorem b_spec_IsPath_0 (n m : Nat) (v0_0 : (List ByteArray)) (v0_1 : Int) : L_spec_IsPath_0 n (m + 1) (S_spec_IsPath_0 v0_0 v0_1) = spec_IsPath_L0 (fun r0 => some [⟨.bool, r0⟩]) (fun v0_0 v0_1 => L_spec_IsPath_0 n m (S_spec_IsPath_0 v0_0 v0_1)) v0_0 v0_1 := bP_spec_IsPath_0 N.spec_IsLabel G.spec_IsLabel N.spec_l1In n m v0_0 v0_1
theorem aP_spec_IsPath (f_spec_IsLabel : ByteArray → Bool) (g_spec_IsLabel : ByteArray → Bool) (f_spec_l1In : Int → Int → Int → Bool) (n : Nat) (a0 : (List ByteArray)) : absF tab sigs (OP_spec_IsPath f_spec_IsLabel g_spec_IsLabel f_spec_l1In) A_spec_IsPath Try.f33 [(.bool, .no)] n [.val (.slice 9 .str) a0] = spec_IsPath_P f_spec_IsLabel g_spec_IsLabel f_spec_l1In (fun r0 => some [⟨.bool, r0⟩]) (fun v0_0 v0_1 => L_P_spec_IsPath_0 f_spec_IsLabel g_spec_IsLabel f_spec_l1In n n (S_spec_IsPath_0 v0_0 v0_1)) a0 := by kernel_rfl
theorem a_spec_IsPath (n : Nat) (a0 : (List ByteArray)) : absF tab sigs O_spec_IsPath A_spec_IsPath Try.f33 [(.bool, .no)] n [.val (.slice 9 .str) a0] = spec_IsPath (fun r0 => some [⟨.bool, r0⟩]) (fun v0_0 v0_1 => L_spec_IsPath_0 n n (S_spec_IsPath_0 v0_0 v0_1)) a0 := aP_spec_IsPath N.spec_IsLabel G.spec_IsLabel N.spec_l1In n a0
theorem said_spec_IsPath (a0 : (List ByteArray)) (g : G.spec_IsPath a0 = true) : Said Try.prog sigs_33 33 [.val (.slice 9 .str) a0] [⟨.bool, N.spec_IsPath a0⟩] := said_len (T := tab) (A := A_spec_IsPath) tabOk ok_spec_IsPath tabOk.follows Try.func33 (by kernel_rfl) (by kernel_rfl) (fun hl => let ⟨n, hn⟩ := spec_IsPath_ok (ρ := Ret) (fun r0 => some [⟨.bool, r0⟩]) a0 hl.1 g; ⟨n, (a_spec_IsPath n a0).trans (hn n (Nat.le_refl n) (fun  m v0_0 v0_1 => L_spec_IsPath_0 n  m (S_spec_IsPath_0 v0_0 v0_1)) (fun  m v0_0 v0_1 => b_spec_IsPath_0 n  m v0_0 v0_1))⟩)
/-! spec.IsEntry -/
abbrev G.spec_IsEntry (e : TEntry) : Bool := decide (wE e ≤ 1048576)
abbrev N.spec_IsEntry (e : TEntry) : Bool := isEntry e
def spec_IsEntry {ρ : Type} (k : Bool → Option ρ) (a0 : TEntry) : Option ρ := (cond (a0.2.1 == (1 : Int)) (cond (G.spec_IsLabel a0.1) (cond (N.spec_IsLabel a0.1) (cond (N.spec_l1In a0.2.2.1 (0 : Int) (999999 : Int)) (k ((List.length a0.2.2.2 : Int) == (0 : Int))) (k false)) (k false)) none) (cond (a0.2.1 == (2 : Int)) (cond (G.spec_IsLabel a0.1) (cond (N.spec_IsLabel a0.1) (cond (N.spec_l1In a0.2.2.1 (0 : Int) (2147483646 : Int)) (k ((List.length a0.2.2.2 : Int) == (0 : Int))) (k false)) (k false)) none) (cond (a0.2.1 == (3 : Int)) (cond (G.spec_IsLabel a0.1) (cond (N.spec_IsLabel a0.1) (cond (N.spec_l1In a0.2.2.1 (0 : Int) (2147483646 : Int)) (cond (G.spec_IsPath a0.2.2.2) (k (N.spec_IsPath a0.2.2.2)) none) (k false)) (k false)) none) (k false))))
theorem spec_IsEntry_ok {ρ : Type} (k : Bool → Option ρ) (a0 : TEntry) (l_a0 : (True ∧ (True ∧ (True ∧ lnL (fun _ => True) a0.2.2.2)))) (g : G.spec_IsEntry a0 = true) : spec_IsEntry k  a0 = k (N.spec_IsEntry a0) := by
  unfold G.spec_IsEntry at g
  have hw : wE a0 ≤ 1048576 := of_decide_eq_true g
  have g1 : decide (a0.1.size ≤ 1048576) = true := by unfold wE at hw; simp; omega
  have g2 : decide (wP a0.2.2.2 ≤ 1048576) = true := by unfold wE at hw; simp; omega
  simp only [spec_IsEntry, G.spec_IsLabel, N.spec_IsLabel, G.spec_IsPath, N.spec_IsPath, N.spec_l1In, g1, g2, cond_true, isEntry, isDigest]
  by_cases h1 : a0.2.1 = 1
  · have e1 : (a0.2.1 == 1) = true := by simp [h1]
    have e2 : (a0.2.1 == 2) = false := by simp [h1]
    have e3 : (a0.2.1 == 3) = false := by simp [h1]
    simp only [e1, e2, e3]
    cases isLabel a0.1 <;> cases inR a0.2.2.1 0 999999 <;> simp
  by_cases h2 : a0.2.1 = 2
  · have e1 : (a0.2.1 == 1) = false := by simp [h2]
    have e2 : (a0.2.1 == 2) = true := by simp [h2]
    have e3 : (a0.2.1 == 3) = false := by simp [h2]
    simp only [e1, e2, e3]
    cases isLabel a0.1 <;> cases inR a0.2.2.1 0 2147483646 <;> simp
  have e1 : (a0.2.1 == 1) = false := by simp [h1]
  have e2 : (a0.2.1 == 2) = false := by simp [h2]
  simp only [e1, e2]
  cases a0.2.1 == 3 <;> cases isLabel a0.1 <;> cases inR a0.2.2.1 0 2147483646 <;> simp
def OP_spec_IsEntry (f_spec_IsLabel : ByteArray → Bool) (g_spec_IsLabel : ByteArray → Bool) (f_spec_l1In : Int → Int → Int → Bool) (f_spec_IsPath : (List ByteArray) → Bool) (g_spec_IsPath : (List ByteArray) → Bool) : Orac := (orcX 33 [.val (.slice 9 .str)] (fun d => g_spec_IsPath d.1) (fun d => [⟨.bool, f_spec_IsPath d.1⟩]) (orcX 32 [.val (.int .i64), .val (.int .i64), .val (.int .i64)] (fun d => true) (fun d => [⟨.bool, f_spec_l1In d.1 d.2.1 d.2.2.1⟩]) (orcX 31 [.val .str] (fun d => g_spec_IsLabel d.1) (fun d => [⟨.bool, f_spec_IsLabel d.1⟩]) nilO)))
def O_spec_IsEntry : Orac := OP_spec_IsEntry N.spec_IsLabel G.spec_IsLabel N.spec_l1In N.spec_IsPath G.spec_IsPath
def spec_IsEntry_P {ρ : Type} (f_spec_IsLabel : ByteArray → Bool) (g_spec_IsLabel : ByteArray → Bool) (f_spec_l1In : Int → Int → Int → Bool) (f_spec_IsPath : (List ByteArray) → Bool) (g_spec_IsPath : (List ByteArray) → Bool) (k : Bool → Option ρ) (a0 : TEntry) : Option ρ := (cond (a0.2.1 == (1 : Int)) (cond (g_spec_IsLabel a0.1) (cond (f_spec_IsLabel a0.1) (cond (f_spec_l1In a0.2.2.1 (0 : Int) (999999 : Int)) (k ((List.length a0.2.2.2 : Int) == (0 : Int))) (k false)) (k false)) none) (cond (a0.2.1 == (2 : Int)) (cond (g_spec_IsLabel a0.1) (cond (f_spec_IsLabel a0.1) (cond (f_spec_l1In a0.2.2.1 (0 : Int) (2147483646 : Int)) (k ((List.length a0.2.2.2 : Int) == (0 : Int))) (k false)) (k false)) none) (cond (a0.2.1 == (3 : Int)) (cond (g_spec_IsLabel a0.1) (cond (f_spec_IsLabel a0.1) (cond (f_spec_l1In a0.2.2.1 (0 : Int) (2147483646 : Int)) (cond (g_spec_IsPath a0.2.2.2) (k (f_spec_IsPath a0.2.2.2)) none) (k false)) (k false)) none) (k false))))
theorem ok_spec_IsEntry : OracOk Try.prog sigs O_spec_IsEntry := (orcX_ok rfl rfl (fun d g => said_spec_IsPath d.1 g) (orcX_ok rfl rfl (fun d g => said_spec_l1In d.1 d.2.1 d.2.2.1) (orcX_ok rfl rfl (fun d g => said_spec_IsLabel d.1 g) nilO_ok)))
def A_spec_IsEntry : Ann := fun b => ⟨[], []⟩
theorem aP_spec_IsEntry (f_spec_IsLabel : ByteArray → Bool) (g_spec_IsLabel : ByteArray → Bool) (f_spec_l1In : Int → Int → Int → Bool) (f_spec_IsPath : (List ByteArray) → Bool) (g_spec_IsPath : (List ByteArray) → Bool) (n : Nat) (a0 : TEntry) : absF tab sigs (OP_spec_IsEntry f_spec_IsLabel g_spec_IsLabel f_spec_l1In f_spec_IsPath g_spec_IsPath) A_spec_IsEntry Try.f11 [(.bool, .no)] n [.val TyEntry a0] = spec_IsEntry_P f_spec_IsLabel g_spec_IsLabel f_spec_l1In f_spec_IsPath g_spec_IsPath (fun r0 => some [⟨.bool, r0⟩])  a0 := by kernel_rfl
theorem a_spec_IsEntry (n : Nat) (a0 : TEntry) : absF tab sigs O_spec_IsEntry A_spec_IsEntry Try.f11 [(.bool, .no)] n [.val TyEntry a0] = spec_IsEntry (fun r0 => some [⟨.bool, r0⟩])  a0 := aP_spec_IsEntry N.spec_IsLabel G.spec_IsLabel N.spec_l1In N.spec_IsPath G.spec_IsPath n a0
theorem said_spec_IsEntry (a0 : TEntry) (g : G.spec_IsEntry a0 = true) : Said Try.prog sigs_11 11 [.val TyEntry a0] [⟨.bool, N.spec_IsEntry a0⟩] := said_len (T := tab) (A := A_spec_IsEntry) tabOk ok_spec_IsEntry tabOk.follows Try.func11 (by kernel_rfl) (by kernel_rfl) (fun hl => ⟨0, (a_spec_IsEntry 0 a0).trans (spec_IsEntry_ok (ρ := Ret) (fun r0 => some [⟨.bool, r0⟩]) a0 hl.1 g)⟩)
/-! slices.Equal[[]string,string] -/
abbrev N.slices_Equal_string (a b : List ByteArray) : Bool := eqStrs a b
def slices_Equal_string_L0 {ρ : Type} (k : Bool → Option ρ) (L0 : (List ByteArray) → (List ByteArray) → Int → Int → Option ρ) (v0_0 : (List ByteArray)) (v0_1 : (List ByteArray)) (v0_2 : Int) (v0_3 : Int) : Option ρ := (cond (decide (v0_3 < v0_2)) (cond (inRange v0_3 (List.length v0_0)) (cond (inRange v0_3 (List.length v0_1)) (cond (!((ByteArray.toList (List.getD v0_0 (Int.toNat v0_3) ByteArray.empty)) == (ByteArray.toList (List.getD v0_1 (Int.toNat v0_3) ByteArray.empty)))) (k false) (L0 v0_0 v0_1 v0_2 (IntKind.wrap .i64 (v0_3 + (1 : Int))))) none) none) (k true))
def slices_Equal_string {ρ : Type} (k : Bool → Option ρ) (L0 : (List ByteArray) → (List ByteArray) → Int → Int → Option ρ) (a0 : (List ByteArray)) (a1 : (List ByteArray)) : Option ρ := (cond ((List.length a0 : Int) != (List.length a1 : Int)) (k false) (L0 a0 a1 (List.length a0 : Int) (0 : Int)))
theorem slices_Equal_string_ok {ρ : Type} (k : Bool → Option ρ) (a0 : (List ByteArray)) (a1 : (List ByteArray)) (l_a0 : lnL (fun _ => True) a0) (l_a1 : lnL (fun _ => True) a1) : ∃ n0, ∀ n, n0 ≤ n → ∀ (L0 : Nat → (List ByteArray) → (List ByteArray) → Int → Int → Option ρ) (h0 : ∀ ( m : Nat) (v0_0 : (List ByteArray)) (v0_1 : (List ByteArray)) (v0_2 : Int) (v0_3 : Int), L0 (m + 1) v0_0 v0_1 v0_2 v0_3 = slices_Equal_string_L0 k (L0 m) v0_0 v0_1 v0_2 v0_3), slices_Equal_string k (L0 n) a0 a1 = k (N.slices_Equal_string a0 a1) := by
  exact ⟨a0.length + 1, fun n hn L0 h0 => eq_all (p := eqStr) (d := ByteArray.empty) l_a0.1 (L := fun m i => L0 m a0 a1 (a0.length : Int) i) (fun m i => h0 m a0 a1 (a0.length : Int) i) hn⟩
def O_slices_Equal_string : Orac := nilO
theorem ok_slices_Equal_string : OracOk Try.prog sigs O_slices_Equal_string := nilO_ok
def A_slices_Equal_string : Ann := fun b => cond (Nat.beq b 0) ⟨[(0, false), (1, false), (12, false), (13, false)], []⟩ (⟨[], []⟩)
def S_slices_Equal_string_0 (v0_0 : (List ByteArray)) (v0_1 : (List ByteArray)) (v0_2 : Int) (v0_3 : Int) : St := [(kT 0, some (.tv (.v (.slice 9 .str) v0_0 .no))), (kT 1, some (.tv (.v (.slice 9 .str) v0_1 .no))), (kT 12, some (.tv (.v (.int .i64) v0_2 .no))), (kT 13, some (.tv (.v (.int .i64) v0_3 .no)))]
noncomputable def L_slices_Equal_string_0 (n m : Nat) : St → Option Ret := loopOf tab sigs O_slices_Equal_string A_slices_Equal_string Try.f34 [(.bool, .no)] n (fun _ => 0) 0 m
theorem b_slices_Equal_string_0 (n m : Nat) (v0_0 : (List ByteArray)) (v0_1 : (List ByteArray)) (v0_2 : Int) (v0_3 : Int) : L_slices_Equal_string_0 n (m + 1) (S_slices_Equal_string_0 v0_0 v0_1 v0_2 v0_3) = slices_Equal_string_L0 (fun r0 => some [⟨.bool, r0⟩]) (fun v0_0 v0_1 v0_2 v0_3 => L_slices_Equal_string_0 n m (S_slices_Equal_string_0 v0_0 v0_1 v0_2 v0_3)) v0_0 v0_1 v0_2 v0_3 := by kernel_rfl
theorem a_slices_Equal_string (n : Nat) (a0 : (List ByteArray)) (a1 : (List ByteArray)) : absF tab sigs O_slices_Equal_string A_slices_Equal_string Try.f34 [(.bool, .no)] n [.val (.slice 9 .str) a0, .val (.slice 9 .str) a1] = slices_Equal_string (fun r0 => some [⟨.bool, r0⟩]) (fun v0_0 v0_1 v0_2 v0_3 => L_slices_Equal_string_0 n n (S_slices_Equal_string_0 v0_0 v0_1 v0_2 v0_3)) a0 a1 := by kernel_rfl
theorem said_slices_Equal_string (a0 : (List ByteArray)) (a1 : (List ByteArray)) : Said Try.prog sigs_34 34 [.val (.slice 9 .str) a0, .val (.slice 9 .str) a1] [⟨.bool, N.slices_Equal_string a0 a1⟩] := said_len (T := tab) (A := A_slices_Equal_string) tabOk ok_slices_Equal_string tabOk.follows Try.func34 (by kernel_rfl) (by kernel_rfl) (fun hl => let ⟨n, hn⟩ := slices_Equal_string_ok (ρ := Ret) (fun r0 => some [⟨.bool, r0⟩]) a0 a1 hl.1 hl.2.1; ⟨n, (a_slices_Equal_string n a0 a1).trans (hn n (Nat.le_refl n) (fun  m v0_0 v0_1 v0_2 v0_3 => L_slices_Equal_string_0 n  m (S_slices_Equal_string_0 v0_0 v0_1 v0_2 v0_3)) (fun  m v0_0 v0_1 v0_2 v0_3 => b_slices_Equal_string_0 n  m v0_0 v0_1 v0_2 v0_3))⟩)
/-! impl.EqualEntries -/
abbrev N.impl_EqualEntries (a b : TEntry) : Bool := eqEntry a b
def impl_EqualEntries {ρ : Type} (k : Bool → Option ρ) (a0 : TEntry) (a1 : TEntry) : Option ρ := (cond ((ByteArray.toList a0.1) == (ByteArray.toList a1.1)) (cond (a0.2.1 == a1.2.1) (cond (a0.2.2.1 == a1.2.2.1) (k (N.slices_Equal_string a0.2.2.2 a1.2.2.2)) (k false)) (k false)) (k false))
theorem impl_EqualEntries_ok {ρ : Type} (k : Bool → Option ρ) (a0 : TEntry) (a1 : TEntry) (l_a0 : (True ∧ (True ∧ (True ∧ lnL (fun _ => True) a0.2.2.2)))) (l_a1 : (True ∧ (True ∧ (True ∧ lnL (fun _ => True) a1.2.2.2)))) : impl_EqualEntries k  a0 a1 = k (N.impl_EqualEntries a0 a1) := by
  simp only [impl_EqualEntries, eqEntry, eqStr]
  cases a0.1.toList == a1.1.toList
  · rfl
  cases a0.2.1 == a1.2.1
  · rfl
  cases a0.2.2.1 == a1.2.2.1 <;> rfl
def OP_impl_EqualEntries (f_slices_Equal_string : (List ByteArray) → (List ByteArray) → Bool) : Orac := (orcX 34 [.val (.slice 9 .str), .val (.slice 9 .str)] (fun d => true) (fun d => [⟨.bool, f_slices_Equal_string d.1 d.2.1⟩]) nilO)
def O_impl_EqualEntries : Orac := OP_impl_EqualEntries N.slices_Equal_string
def impl_EqualEntries_P {ρ : Type} (f_slices_Equal_string : (List ByteArray) → (List ByteArray) → Bool) (k : Bool → Option ρ) (a0 : TEntry) (a1 : TEntry) : Option ρ := (cond ((ByteArray.toList a0.1) == (ByteArray.toList a1.1)) (cond (a0.2.1 == a1.2.1) (cond (a0.2.2.1 == a1.2.2.1) (k (f_slices_Equal_string a0.2.2.2 a1.2.2.2)) (k false)) (k false)) (k false))
theorem ok_impl_EqualEntries : OracOk Try.prog sigs O_impl_EqualEntries := (orcX_ok rfl rfl (fun d g => said_slices_Equal_string d.1 d.2.1) nilO_ok)
def A_impl_EqualEntries : Ann := fun b => ⟨[], []⟩
theorem aP_impl_EqualEntries (f_slices_Equal_string : (List ByteArray) → (List ByteArray) → Bool) (n : Nat) (a0 : TEntry) (a1 : TEntry) : absF tab sigs (OP_impl_EqualEntries f_slices_Equal_string) A_impl_EqualEntries Try.f12 [(.bool, .no)] n [.val TyEntry a0, .val TyEntry a1] = impl_EqualEntries_P f_slices_Equal_string (fun r0 => some [⟨.bool, r0⟩])  a0 a1 := by kernel_rfl
theorem a_impl_EqualEntries (n : Nat) (a0 : TEntry) (a1 : TEntry) : absF tab sigs O_impl_EqualEntries A_impl_EqualEntries Try.f12 [(.bool, .no)] n [.val TyEntry a0, .val TyEntry a1] = impl_EqualEntries (fun r0 => some [⟨.bool, r0⟩])  a0 a1 := aP_impl_EqualEntries N.slices_Equal_string n a0 a1
theorem said_impl_EqualEntries (a0 : TEntry) (a1 : TEntry) : Said Try.prog sigs_12 12 [.val TyEntry a0, .val TyEntry a1] [⟨.bool, N.impl_EqualEntries a0 a1⟩] := said_len (T := tab) (A := A_impl_EqualEntries) tabOk ok_impl_EqualEntries tabOk.follows Try.func12 (by kernel_rfl) (by kernel_rfl) (fun hl => ⟨0, (a_impl_EqualEntries 0 a0 a1).trans (impl_EqualEntries_ok (ρ := Ret) (fun r0 => some [⟨.bool, r0⟩]) a0 a1 hl.1 hl.2.1)⟩)
/-! spec.SamePath -/
abbrev N.spec_SamePath (a b : List ByteArray) : Bool := eqStrs a b
def spec_SamePath_L0 {ρ : Type} (k : Bool → Option ρ) (L0 : (List ByteArray) → (List ByteArray) → Int → Option ρ) (v0_0 : (List ByteArray)) (v0_1 : (List ByteArray)) (v0_2 : Int) : Option ρ := (cond (decide (v0_2 < (List.length v0_0 : Int))) (cond (inRange v0_2 (List.length v0_0)) (cond (inRange v0_2 (List.length v0_1)) (cond (!((ByteArray.toList (List.getD v0_0 (Int.toNat v0_2) ByteArray.empty)) == (ByteArray.toList (List.getD v0_1 (Int.toNat v0_2) ByteArray.empty)))) (k false) (L0 v0_0 v0_1 (IntKind.wrap .i64 (v0_2 + (1 : Int))))) none) none) (k true))
def spec_SamePath {ρ : Type} (k : Bool → Option ρ) (L0 : (List ByteArray) → (List ByteArray) → Int → Option ρ) (a0 : (List ByteArray)) (a1 : (List ByteArray)) : Option ρ := (cond ((List.length a0 : Int) != (List.length a1 : Int)) (k false) (L0 a0 a1 (0 : Int)))
theorem spec_SamePath_ok {ρ : Type} (k : Bool → Option ρ) (a0 : (List ByteArray)) (a1 : (List ByteArray)) (l_a0 : lnL (fun _ => True) a0) (l_a1 : lnL (fun _ => True) a1) : ∃ n0, ∀ n, n0 ≤ n → ∀ (L0 : Nat → (List ByteArray) → (List ByteArray) → Int → Option ρ) (h0 : ∀ ( m : Nat) (v0_0 : (List ByteArray)) (v0_1 : (List ByteArray)) (v0_2 : Int), L0 (m + 1) v0_0 v0_1 v0_2 = spec_SamePath_L0 k (L0 m) v0_0 v0_1 v0_2), spec_SamePath k (L0 n) a0 a1 = k (N.spec_SamePath a0 a1) := by
  exact ⟨a0.length + 1, fun n hn L0 h0 => eq_all (p := eqStr) (d := ByteArray.empty) l_a0.1 (L := fun m i => L0 m a0 a1 i) (fun m i => h0 m a0 a1 i) hn⟩
def O_spec_SamePath : Orac := nilO
theorem ok_spec_SamePath : OracOk Try.prog sigs O_spec_SamePath := nilO_ok
def A_spec_SamePath : Ann := fun b => cond (Nat.beq b 0) ⟨[(0, false), (1, false), (5, false)], []⟩ (⟨[], []⟩)
def S_spec_SamePath_0 (v0_0 : (List ByteArray)) (v0_1 : (List ByteArray)) (v0_2 : Int) : St := [(kT 0, some (.tv (.v (.slice 9 .str) v0_0 .no))), (kT 1, some (.tv (.v (.slice 9 .str) v0_1 .no))), (kT 5, some (.tv (.v (.int .i64) v0_2 .no)))]
noncomputable def L_spec_SamePath_0 (n m : Nat) : St → Option Ret := loopOf tab sigs O_spec_SamePath A_spec_SamePath Try.f35 [(.bool, .no)] n (fun _ => 0) 0 m
theorem b_spec_SamePath_0 (n m : Nat) (v0_0 : (List ByteArray)) (v0_1 : (List ByteArray)) (v0_2 : Int) : L_spec_SamePath_0 n (m + 1) (S_spec_SamePath_0 v0_0 v0_1 v0_2) = spec_SamePath_L0 (fun r0 => some [⟨.bool, r0⟩]) (fun v0_0 v0_1 v0_2 => L_spec_SamePath_0 n m (S_spec_SamePath_0 v0_0 v0_1 v0_2)) v0_0 v0_1 v0_2 := by kernel_rfl
theorem a_spec_SamePath (n : Nat) (a0 : (List ByteArray)) (a1 : (List ByteArray)) : absF tab sigs O_spec_SamePath A_spec_SamePath Try.f35 [(.bool, .no)] n [.val (.slice 9 .str) a0, .val (.slice 9 .str) a1] = spec_SamePath (fun r0 => some [⟨.bool, r0⟩]) (fun v0_0 v0_1 v0_2 => L_spec_SamePath_0 n n (S_spec_SamePath_0 v0_0 v0_1 v0_2)) a0 a1 := by kernel_rfl
theorem said_spec_SamePath (a0 : (List ByteArray)) (a1 : (List ByteArray)) : Said Try.prog sigs_35 35 [.val (.slice 9 .str) a0, .val (.slice 9 .str) a1] [⟨.bool, N.spec_SamePath a0 a1⟩] := said_len (T := tab) (A := A_spec_SamePath) tabOk ok_spec_SamePath tabOk.follows Try.func35 (by kernel_rfl) (by kernel_rfl) (fun hl => let ⟨n, hn⟩ := spec_SamePath_ok (ρ := Ret) (fun r0 => some [⟨.bool, r0⟩]) a0 a1 hl.1 hl.2.1; ⟨n, (a_spec_SamePath n a0 a1).trans (hn n (Nat.le_refl n) (fun  m v0_0 v0_1 v0_2 => L_spec_SamePath_0 n  m (S_spec_SamePath_0 v0_0 v0_1 v0_2)) (fun  m v0_0 v0_1 v0_2 => b_spec_SamePath_0 n  m v0_0 v0_1 v0_2))⟩)
/-! spec.EqualEntries -/
abbrev N.spec_EqualEntries (a b : TEntry) : Bool := eqEntry a b
def spec_EqualEntries {ρ : Type} (k : Bool → Option ρ) (a0 : TEntry) (a1 : TEntry) : Option ρ := (cond ((ByteArray.toList a0.1) == (ByteArray.toList a1.1)) (cond (a0.2.1 == a1.2.1) (cond (a0.2.2.1 == a1.2.2.1) (k (N.spec_SamePath a0.2.2.2 a1.2.2.2)) (k false)) (k false)) (k false))
theorem spec_EqualEntries_ok {ρ : Type} (k : Bool → Option ρ) (a0 : TEntry) (a1 : TEntry) (l_a0 : (True ∧ (True ∧ (True ∧ lnL (fun _ => True) a0.2.2.2)))) (l_a1 : (True ∧ (True ∧ (True ∧ lnL (fun _ => True) a1.2.2.2)))) : spec_EqualEntries k  a0 a1 = k (N.spec_EqualEntries a0 a1) := by
  simp only [spec_EqualEntries, eqEntry, eqStr]
  cases a0.1.toList == a1.1.toList
  · rfl
  cases a0.2.1 == a1.2.1
  · rfl
  cases a0.2.2.1 == a1.2.2.1 <;> rfl
def OP_spec_EqualEntries (f_spec_SamePath : (List ByteArray) → (List ByteArray) → Bool) : Orac := (orcX 35 [.val (.slice 9 .str), .val (.slice 9 .str)] (fun d => true) (fun d => [⟨.bool, f_spec_SamePath d.1 d.2.1⟩]) nilO)
def O_spec_EqualEntries : Orac := OP_spec_EqualEntries N.spec_SamePath
def spec_EqualEntries_P {ρ : Type} (f_spec_SamePath : (List ByteArray) → (List ByteArray) → Bool) (k : Bool → Option ρ) (a0 : TEntry) (a1 : TEntry) : Option ρ := (cond ((ByteArray.toList a0.1) == (ByteArray.toList a1.1)) (cond (a0.2.1 == a1.2.1) (cond (a0.2.2.1 == a1.2.2.1) (k (f_spec_SamePath a0.2.2.2 a1.2.2.2)) (k false)) (k false)) (k false))
theorem ok_spec_EqualEntries : OracOk Try.prog sigs O_spec_EqualEntries := (orcX_ok rfl rfl (fun d g => said_spec_SamePath d.1 d.2.1) nilO_ok)
def A_spec_EqualEntries : Ann := fun b => ⟨[], []⟩
theorem aP_spec_EqualEntries (f_spec_SamePath : (List ByteArray) → (List ByteArray) → Bool) (n : Nat) (a0 : TEntry) (a1 : TEntry) : absF tab sigs (OP_spec_EqualEntries f_spec_SamePath) A_spec_EqualEntries Try.f13 [(.bool, .no)] n [.val TyEntry a0, .val TyEntry a1] = spec_EqualEntries_P f_spec_SamePath (fun r0 => some [⟨.bool, r0⟩])  a0 a1 := by kernel_rfl
theorem a_spec_EqualEntries (n : Nat) (a0 : TEntry) (a1 : TEntry) : absF tab sigs O_spec_EqualEntries A_spec_EqualEntries Try.f13 [(.bool, .no)] n [.val TyEntry a0, .val TyEntry a1] = spec_EqualEntries (fun r0 => some [⟨.bool, r0⟩])  a0 a1 := aP_spec_EqualEntries N.spec_SamePath n a0 a1
theorem said_spec_EqualEntries (a0 : TEntry) (a1 : TEntry) : Said Try.prog sigs_13 13 [.val TyEntry a0, .val TyEntry a1] [⟨.bool, N.spec_EqualEntries a0 a1⟩] := said_len (T := tab) (A := A_spec_EqualEntries) tabOk ok_spec_EqualEntries tabOk.follows Try.func13 (by kernel_rfl) (by kernel_rfl) (fun hl => ⟨0, (a_spec_EqualEntries 0 a0 a1).trans (spec_EqualEntries_ok (ρ := Ret) (fun r0 => some [⟨.bool, r0⟩]) a0 a1 hl.1 hl.2.1)⟩)
/-! spec.BytesToInts -/
abbrev G.spec_BytesToInts (b : List Int) : Bool := decide (b.length ≤ 1048577)
abbrev N.spec_BytesToInts (b : List Int) : List Int := bytesInts b
def spec_BytesToInts_L0 {ρ : Type} (k : (List Int) → Option ρ) (L0 : (List Int) → Int → (List Int) → Option ρ) (v0_0 : (List Int)) (v0_1 : Int) (v0_2 : (List Int)) : Option ρ := (cond (decide (v0_1 < (List.length v0_0 : Int))) (cond (inRange v0_1 (List.length v0_0)) (cond (fit (List.length v0_2) (List.length [(IntKind.wrap .i64 (List.getD v0_0 (Int.toNat v0_1) (0 : Int)))])) (L0 v0_0 (IntKind.wrap .i64 (v0_1 + (1 : Int))) (List.append v0_2 [(IntKind.wrap .i64 (List.getD v0_0 (Int.toNat v0_1) (0 : Int)))])) none) none) (k v0_2))
def spec_BytesToInts {ρ : Type} (k : (List Int) → Option ρ) (L0 : (List Int) → Int → (List Int) → Option ρ) (a0 : (List Int)) : Option ρ := (L0 a0 (0 : Int) [(List.length a0 : Int)])
theorem spec_BytesToInts_ok {ρ : Type} (k : (List Int) → Option ρ) (a0 : (List Int)) (l_a0 : lnL (fun _ => True) a0) (g : G.spec_BytesToInts a0 = true) : ∃ n0, ∀ n, n0 ≤ n → ∀ (L0 : Nat → (List Int) → Int → (List Int) → Option ρ) (h0 : ∀ ( m : Nat) (v0_0 : (List Int)) (v0_1 : Int) (v0_2 : (List Int)), L0 (m + 1) v0_0 v0_1 v0_2 = spec_BytesToInts_L0 k (L0 m) v0_0 v0_1 v0_2), spec_BytesToInts k (L0 n) a0 = k (N.spec_BytesToInts a0) := by
  unfold G.spec_BytesToInts at g
  have hlen : a0.length ≤ 1048577 := of_decide_eq_true g
  refine ⟨a0.length + 1, fun n hn L0 h0 => ?_⟩
  refine (raw_foldl (a := a0) 0 (fun o x => o ++ [IntKind.wrap .i64 x]) (k := k) (s := [(a0.length : Int)]) (L := fun m i s => L0 m a0 i s) (R := fun i s c => spec_BytesToInts_L0 k (fun _ i s => c i s) a0 i s) (fun m i s => h0 m a0 i s) (fun j o => o.length ≤ j + 1) (fun j s c hj hI => ?_) (fun j s hj hI => by simp; exact hI) (fun s c => ?_) hn (by simp)).trans (by rw [foldl_app]; rfl)
  · have : j < big := by unfold big; omega
    have e3 : fit s.length 1 = true := fit_of (by omega)
    simp only [spec_BytesToInts_L0, lt_nat, inRange_nat, decide_eq_true hj, cond_true, Int.toNat_natCast, List.length_singleton, e3, wrap_succ this, List.append_eq]
  · simp [spec_BytesToInts_L0]
def O_spec_BytesToInts : Orac := nilO
theorem ok_spec_BytesToInts : OracOk Try.prog sigs O_spec_BytesToInts := nilO_ok
def A_spec_BytesToInts : Ann := fun b => cond (Nat.beq b 0) ⟨[(0, false), (3, true), (4, false)], []⟩ (⟨[], []⟩)
def S_spec_BytesToInts_0 (v0_0 : (List Int)) (v0_1 : Int) (v0_2 : (List Int)) : St := [(kT 0, some (.tv (.v (.slice 5 (.int .u8)) v0_0 .no))), (kT 3, some (.tv (.v (.slice 3 (.int .i64)) [] (.own 24)))), (kT 4, some (.tv (.v (.int .i64) v0_1 .no))), (kR 24, some (.row 3 (.int .i64) v0_2))]
noncomputable def L_spec_BytesToInts_0 (n m : Nat) : St → Option Ret := loopOf tab sigs O_spec_BytesToInts A_spec_BytesToInts Try.f55 [((.slice 3 (.int .i64)), (.own 0))] n (fun _ => 0) 0 m
theorem b_spec_BytesToInts_0 (n m : Nat) (v0_0 : (List Int)) (v0_1 : Int) (v0_2 : (List Int)) : L_spec_BytesToInts_0 n (m + 1) (S_spec_BytesToInts_0 v0_0 v0_1 v0_2) = spec_BytesToInts_L0 (fun r0 => some [⟨(.slice 3 (.int .i64)), r0⟩]) (fun v0_0 v0_1 v0_2 => L_spec_BytesToInts_0 n m (S_spec_BytesToInts_0 v0_0 v0_1 v0_2)) v0_0 v0_1 v0_2 := by kernel_rfl
theorem a_spec_BytesToInts (n : Nat) (a0 : (List Int)) : absF tab sigs O_spec_BytesToInts A_spec_BytesToInts Try.f55 [((.slice 3 (.int .i64)), (.own 0))] n [.val (.slice 5 (.int .u8)) a0] = spec_BytesToInts (fun r0 => some [⟨(.slice 3 (.int .i64)), r0⟩]) (fun v0_0 v0_1 v0_2 => L_spec_BytesToInts_0 n n (S_spec_BytesToInts_0 v0_0 v0_1 v0_2)) a0 := by kernel_rfl
theorem said_spec_BytesToInts (a0 : (List Int)) (g : G.spec_BytesToInts a0 = true) : Said Try.prog sigs_55 55 [.val (.slice 5 (.int .u8)) a0] [⟨(.slice 3 (.int .i64)), N.spec_BytesToInts a0⟩] := said_len (T := tab) (A := A_spec_BytesToInts) tabOk ok_spec_BytesToInts tabOk.follows Try.func55 (by kernel_rfl) (by kernel_rfl) (fun hl => let ⟨n, hn⟩ := spec_BytesToInts_ok (ρ := Ret) (fun r0 => some [⟨(.slice 3 (.int .i64)), r0⟩]) a0 hl.1 g; ⟨n, (a_spec_BytesToInts n a0).trans (hn n (Nat.le_refl n) (fun  m v0_0 v0_1 v0_2 => L_spec_BytesToInts_0 n  m (S_spec_BytesToInts_0 v0_0 v0_1 v0_2)) (fun  m v0_0 v0_1 v0_2 => b_spec_BytesToInts_0 n  m v0_0 v0_1 v0_2))⟩)
/-! spec.LabelInts -/
abbrev G.spec_LabelInts (s : ByteArray) : Bool := decide (s.size ≤ 1048576)
abbrev N.spec_LabelInts (s : ByteArray) : List Int := labelInts s
def spec_LabelInts {ρ : Type} (k : (List Int) → Option ρ) (a0 : ByteArray) : Option ρ := (cond (decide ((ByteArray.size a0 : Int) ≤ 549755813888)) (cond (G.spec_BytesToInts (bytesOf a0)) (k (N.spec_BytesToInts (bytesOf a0))) none) none)
theorem spec_LabelInts_ok {ρ : Type} (k : (List Int) → Option ρ) (a0 : ByteArray) (g : G.spec_LabelInts a0 = true) : spec_LabelInts k  a0 = k (N.spec_LabelInts a0) := by
  unfold G.spec_LabelInts at g
  have h : a0.size ≤ 1048576 := of_decide_eq_true g
  have h1 : decide ((a0.size : Int) ≤ 549755813888) = true := by simp; omega
  have h2 : G.spec_BytesToInts (bytesOf a0) = true := decide_eq_true (by rw [bytesOf_length]; omega)
  show cond _ (cond _ _ none) none = _
  rw [h1, h2]
  rfl
def OP_spec_LabelInts (f_spec_BytesToInts : (List Int) → (List Int)) (g_spec_BytesToInts : (List Int) → Bool) : Orac := (orcX 55 [.val (.slice 5 (.int .u8))] (fun d => g_spec_BytesToInts d.1) (fun d => [⟨(.slice 3 (.int .i64)), f_spec_BytesToInts d.1⟩]) nilO)
def O_spec_LabelInts : Orac := OP_spec_LabelInts N.spec_BytesToInts G.spec_BytesToInts
def spec_LabelInts_P {ρ : Type} (f_spec_BytesToInts : (List Int) → (List Int)) (g_spec_BytesToInts : (List Int) → Bool) (k : (List Int) → Option ρ) (a0 : ByteArray) : Option ρ := (cond (decide ((ByteArray.size a0 : Int) ≤ 549755813888)) (cond (g_spec_BytesToInts (bytesOf a0)) (k (f_spec_BytesToInts (bytesOf a0))) none) none)
theorem ok_spec_LabelInts : OracOk Try.prog sigs O_spec_LabelInts := (orcX_ok rfl rfl (fun d g => said_spec_BytesToInts d.1 g) nilO_ok)
def A_spec_LabelInts : Ann := fun b => ⟨[], []⟩
theorem aP_spec_LabelInts (f_spec_BytesToInts : (List Int) → (List Int)) (g_spec_BytesToInts : (List Int) → Bool) (n : Nat) (a0 : ByteArray) : absF tab sigs (OP_spec_LabelInts f_spec_BytesToInts g_spec_BytesToInts) A_spec_LabelInts Try.f52 [((.slice 3 (.int .i64)), (.own 0))] n [.val .str a0] = spec_LabelInts_P f_spec_BytesToInts g_spec_BytesToInts (fun r0 => some [⟨(.slice 3 (.int .i64)), r0⟩])  a0 := by kernel_rfl
theorem a_spec_LabelInts (n : Nat) (a0 : ByteArray) : absF tab sigs O_spec_LabelInts A_spec_LabelInts Try.f52 [((.slice 3 (.int .i64)), (.own 0))] n [.val .str a0] = spec_LabelInts (fun r0 => some [⟨(.slice 3 (.int .i64)), r0⟩])  a0 := aP_spec_LabelInts N.spec_BytesToInts G.spec_BytesToInts n a0
theorem said_spec_LabelInts (a0 : ByteArray) (g : G.spec_LabelInts a0 = true) : Said Try.prog sigs_52 52 [.val .str a0] [⟨(.slice 3 (.int .i64)), N.spec_LabelInts a0⟩] := said_len (T := tab) (A := A_spec_LabelInts) tabOk ok_spec_LabelInts tabOk.follows Try.func52 (by kernel_rfl) (by kernel_rfl) (fun hl => ⟨0, (a_spec_LabelInts 0 a0).trans (spec_LabelInts_ok (ρ := Ret) (fun r0 => some [⟨(.slice 3 (.int .i64)), r0⟩]) a0 g)⟩)
end Go.Proofs.Ytfpbeohdgoljgaa.Ref
