/- Functions of the program: what each computes, and that it does so.
   Conditions: as each theorem states. -/
import Derived.Test.YthcenfbfgjcikaaSA
set_option linter.unusedVariables false
set_option linter.unusedSimpArgs false
set_option maxRecDepth 100000
namespace Go.Proofs.Ythcenfbfgjcikaa.Ref
open Go.RowKit Go.Proofs.YthcenfbfgjcikaaW.PrintWords Go.Proofs.YthcenfbfgjcikaaW.PrintLast
/-! laws.szIntS -/
abbrev G.laws_szIntS (a : List Int) (left : Int) : Bool := gL left
abbrev N.laws_szIntS (a : List Int) (left : Int) : Int := sub1 a.length left
def laws_szIntS {ρ : Type} (k : Int → Option ρ) (a0 : (List Int)) (a1 : Int) : Option ρ := (cond (decide ((IntKind.wrap .i64 (a1 - (List.length a0 : Int))) < (0 : Int))) (k (-1 : Int)) (k (IntKind.wrap .i64 (a1 - (List.length a0 : Int)))))
theorem laws_szIntS_ok {ρ : Type} (k : Int → Option ρ) (a0 : (List Int)) (a1 : Int) (l_a0 : lnL (fun _ => True) a0) (g : G.laws_szIntS a0 a1 = true) : laws_szIntS k  a0 a1 = k (N.laws_szIntS a0 a1) := by
  unfold G.laws_szIntS at g
  exact sz_first (v := 0) (c := k) g l_a0.1 (fun g' => by
    have : 0 ≤ sub1 a0.length a1 := of_decide_eq_true ((Bool.and_eq_true _ _).mp g').1
    rw [sub1_pos (w := 0) (by omega)]
    simp)
def O_laws_szIntS : Orac := nilO
theorem ok_laws_szIntS : OracOk Try.prog sigs O_laws_szIntS := nilO_ok
def A_laws_szIntS : Ann := fun b => ⟨[], []⟩
theorem a_laws_szIntS (n : Nat) (a0 : (List Int)) (a1 : Int) : absF tab sigs O_laws_szIntS A_laws_szIntS Try.f62 [((.int .i64), .no)] n [.val (.slice 3 (.int .i64)) a0, .val (.int .i64) a1] = laws_szIntS (fun r0 => some [⟨(.int .i64), r0⟩])  a0 a1 := by kernel_rfl
theorem said_laws_szIntS (a0 : (List Int)) (a1 : Int) (g : G.laws_szIntS a0 a1 = true) : Said Try.prog sigs_62 62 [.val (.slice 3 (.int .i64)) a0, .val (.int .i64) a1] [⟨(.int .i64), N.laws_szIntS a0 a1⟩] := said_len (T := tab) (A := A_laws_szIntS) tabOk ok_laws_szIntS tabOk.follows Try.func62 (by kernel_rfl) (by kernel_rfl) (fun hl => ⟨0, (a_laws_szIntS 0 a0 a1).trans (laws_szIntS_ok (ρ := Ret) (fun r0 => some [⟨(.int .i64), r0⟩]) a0 a1 hl.1 g)⟩)
/-! laws.szKeys -/
abbrev G.laws_szKeys (a : TKeys) (left : Int) : Bool := gL left
abbrev N.laws_szKeys (a : TKeys) (left : Int) : Int := sub1 (wK a) left
def laws_szKeys {ρ : Type} (k : Int → Option ρ) (a0 : TKeys) (a1 : Int) : Option ρ := (cond (G.laws_szIntS a0.1 a1) (cond (decide ((N.laws_szIntS a0.1 a1) < (0 : Int))) (k (-1 : Int)) (k (N.laws_szIntS a0.1 a1))) none)
theorem laws_szKeys_ok {ρ : Type} (k : Int → Option ρ) (a0 : TKeys) (a1 : Int) (l_a0 : (lnL (fun _ => True) a0.1 ∧ True)) (g : G.laws_szKeys a0 a1 = true) : laws_szKeys k  a0 a1 = k (N.laws_szKeys a0 a1) := by
  unfold G.laws_szKeys at g
  show cond (gL a1) _ none = _
  rw [g]
  exact sz_last
def OP_laws_szKeys (f_laws_szIntS : (List Int) → Int → Int) (g_laws_szIntS : (List Int) → Int → Bool) : Orac := (orcX 62 [.val (.slice 3 (.int .i64)), .val (.int .i64)] (fun d => g_laws_szIntS d.1 d.2.1) (fun d => [⟨(.int .i64), f_laws_szIntS d.1 d.2.1⟩]) nilO)
def O_laws_szKeys : Orac := OP_laws_szKeys N.laws_szIntS G.laws_szIntS
def laws_szKeys_P {ρ : Type} (f_laws_szIntS : (List Int) → Int → Int) (g_laws_szIntS : (List Int) → Int → Bool) (k : Int → Option ρ) (a0 : TKeys) (a1 : Int) : Option ρ := (cond (g_laws_szIntS a0.1 a1) (cond (decide ((f_laws_szIntS a0.1 a1) < (0 : Int))) (k (-1 : Int)) (k (f_laws_szIntS a0.1 a1))) none)
theorem ok_laws_szKeys : OracOk Try.prog sigs O_laws_szKeys := (orcX_ok rfl rfl (fun d g => said_laws_szIntS d.1 d.2.1 g) nilO_ok)
def A_laws_szKeys : Ann := fun b => ⟨[], []⟩
theorem aP_laws_szKeys (f_laws_szIntS : (List Int) → Int → Int) (g_laws_szIntS : (List Int) → Int → Bool) (n : Nat) (a0 : TKeys) (a1 : Int) : absF tab sigs (OP_laws_szKeys f_laws_szIntS g_laws_szIntS) A_laws_szKeys Try.f30 [((.int .i64), .no)] n [.val (.pair (.slice 3 (.int .i64)) (.int .i64)) a0, .val (.int .i64) a1] = laws_szKeys_P f_laws_szIntS g_laws_szIntS (fun r0 => some [⟨(.int .i64), r0⟩])  a0 a1 := by kernel_rfl
theorem a_laws_szKeys (n : Nat) (a0 : TKeys) (a1 : Int) : absF tab sigs O_laws_szKeys A_laws_szKeys Try.f30 [((.int .i64), .no)] n [.val (.pair (.slice 3 (.int .i64)) (.int .i64)) a0, .val (.int .i64) a1] = laws_szKeys (fun r0 => some [⟨(.int .i64), r0⟩])  a0 a1 := aP_laws_szKeys N.laws_szIntS G.laws_szIntS n a0 a1
theorem said_laws_szKeys (a0 : TKeys) (a1 : Int) (g : G.laws_szKeys a0 a1 = true) : Said Try.prog sigs_30 30 [.val (.pair (.slice 3 (.int .i64)) (.int .i64)) a0, .val (.int .i64) a1] [⟨(.int .i64), N.laws_szKeys a0 a1⟩] := said_len (T := tab) (A := A_laws_szKeys) tabOk ok_laws_szKeys tabOk.follows Try.func30 (by kernel_rfl) (by kernel_rfl) (fun hl => ⟨0, (a_laws_szKeys 0 a0 a1).trans (laws_szKeys_ok (ρ := Ret) (fun r0 => some [⟨(.int .i64), r0⟩]) a0 a1 hl.1 g)⟩)
/-! laws.szStringS -/
abbrev G.laws_szStringS (a : List ByteArray) (left : Int) : Bool := gL left && bP a
abbrev N.laws_szStringS (a : List ByteArray) (left : Int) : Int := sub1 (wP a) left
def laws_szStringS_L0 {ρ : Type} (k : Int → Option ρ) (L0 : (List ByteArray) → Int → Int → Option ρ) (v0_0 : (List ByteArray)) (v0_1 : Int) (v0_2 : Int) : Option ρ := (cond (decide (v0_2 < (List.length v0_0 : Int))) (cond (inRange v0_2 (List.length v0_0)) (cond (decide ((IntKind.wrap .i64 (v0_1 - (ByteArray.size (List.getD v0_0 (Int.toNat v0_2) ByteArray.empty) : Int))) < (0 : Int))) (k (-1 : Int)) (L0 v0_0 (IntKind.wrap .i64 (v0_1 - (ByteArray.size (List.getD v0_0 (Int.toNat v0_2) ByteArray.empty) : Int))) (IntKind.wrap .i64 (v0_2 + (1 : Int))))) none) (k v0_1))
def laws_szStringS {ρ : Type} (k : Int → Option ρ) (L0 : (List ByteArray) → Int → Int → Option ρ) (a0 : (List ByteArray)) (a1 : Int) : Option ρ := (cond (decide ((IntKind.wrap .i64 (a1 - (List.length a0 : Int))) < (0 : Int))) (k (-1 : Int)) (L0 a0 (IntKind.wrap .i64 (a1 - (List.length a0 : Int))) (0 : Int)))
theorem laws_szStringS_ok {ρ : Type} (k : Int → Option ρ) (a0 : (List ByteArray)) (a1 : Int) (l_a0 : lnL (fun _ => True) a0) (g : G.laws_szStringS a0 a1 = true) : ∃ n0, ∀ n, n0 ≤ n → ∀ (L0 : Nat → (List ByteArray) → Int → Int → Option ρ) (h0 : ∀ ( m : Nat) (v0_0 : (List ByteArray)) (v0_1 : Int) (v0_2 : Int), L0 (m + 1) v0_0 v0_1 v0_2 = laws_szStringS_L0 k (L0 m) v0_0 v0_1 v0_2), laws_szStringS k (L0 n) a0 a1 = k (N.laws_szStringS a0 a1) := by
  unfold G.laws_szStringS at g
  replace g := (Bool.and_eq_true _ _).mp g
  refine ⟨a0.length + 1, fun n hn L0 h0 => ?_⟩
  refine sz_first (c := fun l => L0 n a0 l 0) g.1 l_a0.1 (fun g' => ?_)
  have g'' : 0 ≤ sub1 a0.length a1 ∧ sub1 a0.length a1 ≤ 1048576 := by simpa only [gL, Bool.and_eq_true, decide_eq_true_eq] using g'
  refine (loop_l (a := a0) (d := ByteArray.empty) l_a0.1 (L := fun m i s => L0 m a0 s i) (f := fun i x s c => cond (decide (IntKind.wrap .i64 (s - (x.size : Int)) < 0)) (k (-1)) (c (IntKind.wrap .i64 (s - (x.size : Int))))) (e := k) (fun m i s => h0 m a0 s i) hn).trans ?_
  refine foldI_sz (fun x => x.size ≤ 9223372036854775807) (fun i x s c hx hs0 hs1 => ?_) (fun s => rfl) a0 0 _ (fun x hx => by simpa using List.all_eq_true.1 g.2 x hx) g''.1 g''.2
  rw [wrap_sub hs0 hs1 (by omega) (by omega)]
  congr 1
  simp only [decide_eq_decide]
  omega
def O_laws_szStringS : Orac := nilO
theorem ok_laws_szStringS : OracOk Try.prog sigs O_laws_szStringS := nilO_ok
def A_laws_szStringS : Ann := fun b => cond (Nat.beq b 0) ⟨[(0, false), (1, false), (5, false)], []⟩ (⟨[], []⟩)
def S_laws_szStringS_0 (v0_0 : (List ByteArray)) (v0_1 : Int) (v0_2 : Int) : St := [(kT 0, some (.tv (.v (.slice 9 .str) v0_0 .no))), (kT 1, some (.tv (.v (.int .i64) v0_1 .no))), (kT 5, some (.tv (.v (.int .i64) v0_2 .no)))]
noncomputable def L_laws_szStringS_0 (n m : Nat) : St → Option Ret := loopOf tab sigs O_laws_szStringS A_laws_szStringS Try.f98 [((.int .i64), .no)] n (fun _ => 0) 0 m
theorem b_laws_szStringS_0 (n m : Nat) (v0_0 : (List ByteArray)) (v0_1 : Int) (v0_2 : Int) : L_laws_szStringS_0 n (m + 1) (S_laws_szStringS_0 v0_0 v0_1 v0_2) = laws_szStringS_L0 (fun r0 => some [⟨(.int .i64), r0⟩]) (fun v0_0 v0_1 v0_2 => L_laws_szStringS_0 n m (S_laws_szStringS_0 v0_0 v0_1 v0_2)) v0_0 v0_1 v0_2 := by kernel_rfl
theorem a_laws_szStringS (n : Nat) (a0 : (List ByteArray)) (a1 : Int) : absF tab sigs O_laws_szStringS A_laws_szStringS Try.f98 [((.int .i64), .no)] n [.val (.slice 9 .str) a0, .val (.int .i64) a1] = laws_szStringS (fun r0 => some [⟨(.int .i64), r0⟩]) (fun v0_0 v0_1 v0_2 => L_laws_szStringS_0 n n (S_laws_szStringS_0 v0_0 v0_1 v0_2)) a0 a1 := by kernel_rfl
theorem said_laws_szStringS (a0 : (List ByteArray)) (a1 : Int) (g : G.laws_szStringS a0 a1 = true) : Said Try.prog sigs_98 98 [.val (.slice 9 .str) a0, .val (.int .i64) a1] [⟨(.int .i64), N.laws_szStringS a0 a1⟩] := said_len (T := tab) (A := A_laws_szStringS) tabOk ok_laws_szStringS tabOk.follows Try.func98 (by kernel_rfl) (by kernel_rfl) (fun hl => let ⟨n, hn⟩ := laws_szStringS_ok (ρ := Ret) (fun r0 => some [⟨(.int .i64), r0⟩]) a0 a1 hl.1 g; ⟨n, (a_laws_szStringS n a0 a1).trans (hn n (Nat.le_refl n) (fun  m v0_0 v0_1 v0_2 => L_laws_szStringS_0 n  m (S_laws_szStringS_0 v0_0 v0_1 v0_2)) (fun  m v0_0 v0_1 v0_2 => b_laws_szStringS_0 n  m v0_0 v0_1 v0_2))⟩)
/-! laws.szEntry -/
abbrev G.laws_szEntry (a : TEntry) (left : Int) : Bool := gL left && bE a
abbrev N.laws_szEntry (a : TEntry) (left : Int) : Int := sub1 (wE a) left
def laws_szEntry {ρ : Type} (k : Int → Option ρ) (a0 : TEntry) (a1 : Int) : Option ρ := (cond (decide ((IntKind.wrap .i64 (a1 - (ByteArray.size a0.1 : Int))) < (0 : Int))) (k (-1 : Int)) (cond (G.laws_szStringS a0.2.2.2 (IntKind.wrap .i64 (a1 - (ByteArray.size a0.1 : Int)))) (cond (decide ((N.laws_szStringS a0.2.2.2 (IntKind.wrap .i64 (a1 - (ByteArray.size a0.1 : Int)))) < (0 : Int))) (k (-1 : Int)) (k (N.laws_szStringS a0.2.2.2 (IntKind.wrap .i64 (a1 - (ByteArray.size a0.1 : Int)))))) none))
theorem laws_szEntry_ok {ρ : Type} (k : Int → Option ρ) (a0 : TEntry) (a1 : Int) (l_a0 : (True ∧ (True ∧ (True ∧ lnL (fun _ => True) a0.2.2.2)))) (g : G.laws_szEntry a0 a1 = true) : laws_szEntry k  a0 a1 = k (N.laws_szEntry a0 a1) := by
  unfold G.laws_szEntry at g
  replace g := (Bool.and_eq_true _ _).mp g
  have g2 := (Bool.and_eq_true _ _).mp g.2
  refine sz_first (c := fun l => cond (gL l && bP a0.2.2.2) (cond (decide (sub1 (wP a0.2.2.2) l < 0)) (k (-1)) (k (sub1 (wP a0.2.2.2) l))) none) g.1 (of_decide_eq_true g2.1) (fun g1 => ?_)
  rw [g1, g2.2]
  exact sz_last
def OP_laws_szEntry (f_laws_szStringS : (List ByteArray) → Int → Int) (g_laws_szStringS : (List ByteArray) → Int → Bool) : Orac := (orcX 98 [.val (.slice 9 .str), .val (.int .i64)] (fun d => g_laws_szStringS d.1 d.2.1) (fun d => [⟨(.int .i64), f_laws_szStringS d.1 d.2.1⟩]) nilO)
def O_laws_szEntry : Orac := OP_laws_szEntry N.laws_szStringS G.laws_szStringS
def laws_szEntry_P {ρ : Type} (f_laws_szStringS : (List ByteArray) → Int → Int) (g_laws_szStringS : (List ByteArray) → Int → Bool) (k : Int → Option ρ) (a0 : TEntry) (a1 : Int) : Option ρ := (cond (decide ((IntKind.wrap .i64 (a1 - (ByteArray.size a0.1 : Int))) < (0 : Int))) (k (-1 : Int)) (cond (g_laws_szStringS a0.2.2.2 (IntKind.wrap .i64 (a1 - (ByteArray.size a0.1 : Int)))) (cond (decide ((f_laws_szStringS a0.2.2.2 (IntKind.wrap .i64 (a1 - (ByteArray.size a0.1 : Int)))) < (0 : Int))) (k (-1 : Int)) (k (f_laws_szStringS a0.2.2.2 (IntKind.wrap .i64 (a1 - (ByteArray.size a0.1 : Int)))))) none))
theorem ok_laws_szEntry : OracOk Try.prog sigs O_laws_szEntry := (orcX_ok rfl rfl (fun d g => said_laws_szStringS d.1 d.2.1 g) nilO_ok)
def A_laws_szEntry : Ann := fun b => ⟨[], []⟩
theorem aP_laws_szEntry (f_laws_szStringS : (List ByteArray) → Int → Int) (g_laws_szStringS : (List ByteArray) → Int → Bool) (n : Nat) (a0 : TEntry) (a1 : Int) : absF tab sigs (OP_laws_szEntry f_laws_szStringS g_laws_szStringS) A_laws_szEntry Try.f63 [((.int .i64), .no)] n [.val TyEntry a0, .val (.int .i64) a1] = laws_szEntry_P f_laws_szStringS g_laws_szStringS (fun r0 => some [⟨(.int .i64), r0⟩])  a0 a1 := by kernel_rfl
theorem a_laws_szEntry (n : Nat) (a0 : TEntry) (a1 : Int) : absF tab sigs O_laws_szEntry A_laws_szEntry Try.f63 [((.int .i64), .no)] n [.val TyEntry a0, .val (.int .i64) a1] = laws_szEntry (fun r0 => some [⟨(.int .i64), r0⟩])  a0 a1 := aP_laws_szEntry N.laws_szStringS G.laws_szStringS n a0 a1
theorem said_laws_szEntry (a0 : TEntry) (a1 : Int) (g : G.laws_szEntry a0 a1 = true) : Said Try.prog sigs_63 63 [.val TyEntry a0, .val (.int .i64) a1] [⟨(.int .i64), N.laws_szEntry a0 a1⟩] := said_len (T := tab) (A := A_laws_szEntry) tabOk ok_laws_szEntry tabOk.follows Try.func63 (by kernel_rfl) (by kernel_rfl) (fun hl => ⟨0, (a_laws_szEntry 0 a0 a1).trans (laws_szEntry_ok (ρ := Ret) (fun r0 => some [⟨(.int .i64), r0⟩]) a0 a1 hl.1 g)⟩)
/-! laws.szEntryS -/
abbrev G.laws_szEntryS (a : List TEntry) (left : Int) : Bool := gL left && a.all bE
abbrev N.laws_szEntryS (a : List TEntry) (left : Int) : Int := sub1 (wEs a) left
def laws_szEntryS_L0 {ρ : Type} (k : Int → Option ρ) (L0 : (List TEntry) → Int → Int → Option ρ) (v0_0 : (List TEntry)) (v0_1 : Int) (v0_2 : Int) : Option ρ := (cond (decide (v0_2 < (List.length v0_0 : Int))) (cond (inRange v0_2 (List.length v0_0)) (cond (G.laws_szEntry (List.getD v0_0 (Int.toNat v0_2) (ByteArray.empty, ((0 : Int), ((0 : Int), [])))) v0_1) (cond (decide ((N.laws_szEntry (List.getD v0_0 (Int.toNat v0_2) (ByteArray.empty, ((0 : Int), ((0 : Int), [])))) v0_1) < (0 : Int))) (k (-1 : Int)) (L0 v0_0 (N.laws_szEntry (List.getD v0_0 (Int.toNat v0_2) (ByteArray.empty, ((0 : Int), ((0 : Int), [])))) v0_1) (IntKind.wrap .i64 (v0_2 + (1 : Int))))) none) none) (k v0_1))
def laws_szEntryS {ρ : Type} (k : Int → Option ρ) (L0 : (List TEntry) → Int → Int → Option ρ) (a0 : (List TEntry)) (a1 : Int) : Option ρ := (cond (decide ((IntKind.wrap .i64 (a1 - (List.length a0 : Int))) < (0 : Int))) (k (-1 : Int)) (L0 a0 (IntKind.wrap .i64 (a1 - (List.length a0 : Int))) (0 : Int)))
theorem laws_szEntryS_ok {ρ : Type} (k : Int → Option ρ) (a0 : (List TEntry)) (a1 : Int) (l_a0 : lnL (fun y => (True ∧ (True ∧ (True ∧ lnL (fun _ => True) y.2.2.2)))) a0) (g : G.laws_szEntryS a0 a1 = true) : ∃ n0, ∀ n, n0 ≤ n → ∀ (L0 : Nat → (List TEntry) → Int → Int → Option ρ) (h0 : ∀ ( m : Nat) (v0_0 : (List TEntry)) (v0_1 : Int) (v0_2 : Int), L0 (m + 1) v0_0 v0_1 v0_2 = laws_szEntryS_L0 k (L0 m) v0_0 v0_1 v0_2), laws_szEntryS k (L0 n) a0 a1 = k (N.laws_szEntryS a0 a1) := by
  unfold G.laws_szEntryS at g
  replace g := (Bool.and_eq_true _ _).mp g
  refine ⟨a0.length + 1, fun n hn L0 h0 => ?_⟩
  refine sz_first (c := fun l => L0 n a0 l 0) g.1 l_a0.1 (fun g' => ?_)
  have g'' : 0 ≤ sub1 a0.length a1 ∧ sub1 a0.length a1 ≤ 1048576 := by simpa only [gL, Bool.and_eq_true, decide_eq_true_eq] using g'
  refine (loop_l (a := a0) (d := (ByteArray.empty, ((0 : Int), ((0 : Int), [])))) l_a0.1 (L := fun m i s => L0 m a0 s i) (f := fun i x s c => cond (gL s && bE x) (cond (decide (sub1 (wE x) s < 0)) (k (-1)) (c (sub1 (wE x) s))) none) (e := k) (fun m i s => h0 m a0 s i) hn).trans ?_
  refine foldI_sz (fun x => bE x = true) (fun i x s c hx hs0 hs1 => ?_) (fun s => rfl) a0 0 _ (fun x hx => List.all_eq_true.1 g.2 x hx) g''.1 g''.2
  have e1 : gL s = true := by simp [gL, hs0, hs1]
  rw [e1, hx]
  show cond (decide (sub1 (wE x) s < 0)) _ _ = _
  by_cases h : s < (wE x : Int)
  · have h2 := (sub1_neg (w := wE x) hs0).2 h
    simp [h, h2]
  · have h2 : ¬ sub1 (wE x) s < 0 := fun h3 => h ((sub1_neg hs0).1 h3)
    rw [decide_eq_false h2, decide_eq_false h, sub1_pos (w := wE x) (left := s) (by omega)]
def OP_laws_szEntryS (f_laws_szEntry : TEntry → Int → Int) (g_laws_szEntry : TEntry → Int → Bool) : Orac := (orcX 63 [.val TyEntry, .val (.int .i64)] (fun d => g_laws_szEntry d.1 d.2.1) (fun d => [⟨(.int .i64), f_laws_szEntry d.1 d.2.1⟩]) nilO)
def O_laws_szEntryS : Orac := OP_laws_szEntryS N.laws_szEntry G.laws_szEntry
def laws_szEntryS_P_L0 {ρ : Type} (f_laws_szEntry : TEntry → Int → Int) (g_laws_szEntry : TEntry → Int → Bool) (k : Int → Option ρ) (L0 : (List TEntry) → Int → Int → Option ρ) (v0_0 : (List TEntry)) (v0_1 : Int) (v0_2 : Int) : Option ρ := (cond (decide (v0_2 < (List.length v0_0 : Int))) (cond (inRange v0_2 (List.length v0_0)) (cond (g_laws_szEntry (List.getD v0_0 (Int.toNat v0_2) (ByteArray.empty, ((0 : Int), ((0 : Int), [])))) v0_1) (cond (decide ((f_laws_szEntry (List.getD v0_0 (Int.toNat v0_2) (ByteArray.empty, ((0 : Int), ((0 : Int), [])))) v0_1) < (0 : Int))) (k (-1 : Int)) (L0 v0_0 (f_laws_szEntry (List.getD v0_0 (Int.toNat v0_2) (ByteArray.empty, ((0 : Int), ((0 : Int), [])))) v0_1) (IntKind.wrap .i64 (v0_2 + (1 : Int))))) none) none) (k v0_1))
def laws_szEntryS_P {ρ : Type} (f_laws_szEntry : TEntry → Int → Int) (g_laws_szEntry : TEntry → Int → Bool) (k : Int → Option ρ) (L0 : (List TEntry) → Int → Int → Option ρ) (a0 : (List TEntry)) (a1 : Int) : Option ρ := (cond (decide ((IntKind.wrap .i64 (a1 - (List.length a0 : Int))) < (0 : Int))) (k (-1 : Int)) (L0 a0 (IntKind.wrap .i64 (a1 - (List.length a0 : Int))) (0 : Int)))
theorem ok_laws_szEntryS : OracOk Try.prog sigs O_laws_szEntryS := (orcX_ok rfl rfl (fun d g => said_laws_szEntry d.1 d.2.1 g) nilO_ok)
def A_laws_szEntryS : Ann := fun b => cond (Nat.beq b 0) ⟨[(0, false), (1, false), (5, false)], []⟩ (⟨[], []⟩)
def S_laws_szEntryS_0 (v0_0 : (List TEntry)) (v0_1 : Int) (v0_2 : Int) : St := [(kT 0, some (.tv (.v (.slice 84 TyEntry) v0_0 .no))), (kT 1, some (.tv (.v (.int .i64) v0_1 .no))), (kT 5, some (.tv (.v (.int .i64) v0_2 .no)))]
noncomputable def L_P_laws_szEntryS_0 (f_laws_szEntry : TEntry → Int → Int) (g_laws_szEntry : TEntry → Int → Bool) (n m : Nat) : St → Option Ret := loopOf tab sigs (OP_laws_szEntryS f_laws_szEntry g_laws_szEntry) A_laws_szEntryS Try.f31 [((.int .i64), .no)] n (fun _ => 0) 0 m
noncomputable def L_laws_szEntryS_0 (n m : Nat) : St → Option Ret := L_P_laws_szEntryS_0 N.laws_szEntry G.laws_szEntry n m
theorem bP_laws_szEntryS_0 (f_laws_szEntry : TEntry → Int → Int) (g_laws_szEntry : TEntry → Int → Bool) (n m : Nat) (v0_0 : (List TEntry)) (v0_1 : Int) (v0_2 : Int) : L_P_laws_szEntryS_0 f_laws_szEntry g_laws_szEntry n (m + 1) (S_laws_szEntryS_0 v0_0 v0_1 v0_2) = laws_szEntryS_P_L0 f_laws_szEntry g_laws_szEntry (fun r0 => some [⟨(.int .i64), r0⟩]) (fun v0_0 v0_1 v0_2 => L_P_laws_szEntryS_0 f_laws_szEntry g_laws_szEntry n m (S_laws_szEntryS_0 v0_0 v0_1 v0_2)) v0_0 v0_1 v0_2 := by kernel_rfl
theorem b_laws_szEntryS_0 (n m : Nat) (v0_0 : (List TEntry)) (v0_1 : Int) (v0_2 : Int) : L_laws_szEntryS_0 n (m + 1) (S_laws_szEntryS_0 v0_0 v0_1 v0_2) = laws_szEntryS_L0 (fun r0 => some [⟨(.int .i64), r0⟩]) (fun v0_0 v0_1 v0_2 => L_laws_szEntryS_0 n m (S_laws_szEntryS_0 v0_0 v0_1 v0_2)) v0_0 v0_1 v0_2 := bP_laws_szEntryS_0 N.laws_szEntry G.laws_szEntry n m v0_0 v0_1 v0_2
theorem aP_laws_szEntryS (f_laws_szEntry : TEntry → Int → Int) (g_laws_szEntry : TEntry → Int → Bool) (n : Nat) (a0 : (List TEntry)) (a1 : Int) : absF tab sigs (OP_laws_szEntryS f_laws_szEntry g_laws_szEntry) A_laws_szEntryS Try.f31 [((.int .i64), .no)] n [.val (.slice 84 TyEntry) a0, .val (.int .i64) a1] = laws_szEntryS_P f_laws_szEntry g_laws_szEntry (fun r0 => some [⟨(.int .i64), r0⟩]) (fun v0_0 v0_1 v0_2 => L_P_laws_szEntryS_0 f_laws_szEntry g_laws_szEntry n n (S_laws_szEntryS_0 v0_0 v0_1 v0_2)) a0 a1 := by kernel_rfl
theorem a_laws_szEntryS (n : Nat) (a0 : (List TEntry)) (a1 : Int) : absF tab sigs O_laws_szEntryS A_laws_szEntryS Try.f31 [((.int .i64), .no)] n [.val (.slice 84 TyEntry) a0, .val (.int .i64) a1] = laws_szEntryS (fun r0 => some [⟨(.int .i64), r0⟩]) (fun v0_0 v0_1 v0_2 => L_laws_szEntryS_0 n n (S_laws_szEntryS_0 v0_0 v0_1 v0_2)) a0 a1 := aP_laws_szEntryS N.laws_szEntry G.laws_szEntry n a0 a1
theorem said_laws_szEntryS (a0 : (List TEntry)) (a1 : Int) (g : G.laws_szEntryS a0 a1 = true) : Said Try.prog sigs_31 31 [.val (.slice 84 TyEntry) a0, .val (.int .i64) a1] [⟨(.int .i64), N.laws_szEntryS a0 a1⟩] := said_len (T := tab) (A := A_laws_szEntryS) tabOk ok_laws_szEntryS tabOk.follows Try.func31 (by kernel_rfl) (by kernel_rfl) (fun hl => let ⟨n, hn⟩ := laws_szEntryS_ok (ρ := Ret) (fun r0 => some [⟨(.int .i64), r0⟩]) a0 a1 hl.1 g; ⟨n, (a_laws_szEntryS n a0 a1).trans (hn n (Nat.le_refl n) (fun  m v0_0 v0_1 v0_2 => L_laws_szEntryS_0 n  m (S_laws_szEntryS_0 v0_0 v0_1 v0_2)) (fun  m v0_0 v0_1 v0_2 => b_laws_szEntryS_0 n  m v0_0 v0_1 v0_2))⟩)
/-! laws.toIntS -/
abbrev G.laws_toIntS (a : List Int) : Bool := decide (a.length ≤ 1048576)
abbrev N.laws_toIntS (a : List Int) : List Int := a
def laws_toIntS_L0 {ρ : Type} (k : (List Int) → Option ρ) (L0 : (List Int) → Int → (List Int) → Option ρ) (v0_0 : (List Int)) (v0_1 : Int) (v0_2 : (List Int)) : Option ρ := (cond (decide (v0_1 < (List.length v0_0 : Int))) (cond (inRange v0_1 (List.length v0_0)) (cond (inRange v0_1 (List.length v0_2)) (cond (inRange v0_1 (List.length v0_2)) (L0 v0_0 (IntKind.wrap .i64 (v0_1 + (1 : Int))) (List.set v0_2 (Int.toNat v0_1) (List.getD v0_0 (Int.toNat v0_1) (0 : Int)))) none) none) none) (k v0_2))
def laws_toIntS {ρ : Type} (k : (List Int) → Option ρ) (L0 : (List Int) → Int → (List Int) → Option ρ) (a0 : (List Int)) : Option ρ := (cond (decide (0 ≤ (List.length a0 : Int)) && decide ((List.length a0 : Int) ≤ 549755813888)) (L0 a0 (0 : Int) (List.replicate (Int.toNat (List.length a0 : Int)) (0 : Int))) none)
theorem laws_toIntS_ok {ρ : Type} (k : (List Int) → Option ρ) (a0 : (List Int)) (l_a0 : lnL (fun _ => True) a0) (g : G.laws_toIntS a0 = true) : ∃ n0, ∀ n, n0 ≤ n → ∀ (L0 : Nat → (List Int) → Int → (List Int) → Option ρ) (h0 : ∀ ( m : Nat) (v0_0 : (List Int)) (v0_1 : Int) (v0_2 : (List Int)), L0 (m + 1) v0_0 v0_1 v0_2 = laws_toIntS_L0 k (L0 m) v0_0 v0_1 v0_2), laws_toIntS k (L0 n) a0 = k (N.laws_toIntS a0) := by
  unfold G.laws_toIntS at g
  refine ⟨a0.length + 1, fun n hn L0 h0 => ?_⟩
  have g' : a0.length ≤ 1048576 := by simpa using g
  have hg : (decide (0 ≤ (a0.length : Int)) && decide ((a0.length : Int) ≤ 549755813888)) = true := by simp; omega
  show cond _ _ none = _
  rw [hg]
  refine (raw_copy (a := a0) 0 0 (fun x => x) (k := k) (L := fun m i out => L0 m a0 i out) (R := fun i out c => laws_toIntS_L0 k (fun _ i out => c i out) a0 i out) (fun m i s => h0 m a0 i s) (fun j out c hj hl => ?_) (fun s c => ?_) hn).trans (by simp)
  · simp [laws_toIntS_L0, lt_nat, inRange_nat, hj, hl, wrap_succ (j := j) (by unfold big; omega)]
  · simp [laws_toIntS_L0]
def O_laws_toIntS : Orac := nilO
theorem ok_laws_toIntS : OracOk Try.prog sigs O_laws_toIntS := nilO_ok
def A_laws_toIntS : Ann := fun b => cond (Nat.beq b 0) ⟨[(0, false), (3, true), (4, false)], []⟩ (⟨[], []⟩)
def S_laws_toIntS_0 (v0_0 : (List Int)) (v0_1 : Int) (v0_2 : (List Int)) : St := [(kT 0, some (.tv (.v (.slice 3 (.int .i64)) v0_0 .no))), (kT 3, some (.tv (.v (.slice 3 (.int .i64)) [] (.own 24)))), (kT 4, some (.tv (.v (.int .i64) v0_1 .no))), (kR 24, some (.row 3 (.int .i64) v0_2))]
noncomputable def L_laws_toIntS_0 (n m : Nat) : St → Option Ret := loopOf tab sigs O_laws_toIntS A_laws_toIntS Try.f68 [((.slice 3 (.int .i64)), (.own 0))] n (fun _ => 0) 0 m
theorem b_laws_toIntS_0 (n m : Nat) (v0_0 : (List Int)) (v0_1 : Int) (v0_2 : (List Int)) : L_laws_toIntS_0 n (m + 1) (S_laws_toIntS_0 v0_0 v0_1 v0_2) = laws_toIntS_L0 (fun r0 => some [⟨(.slice 3 (.int .i64)), r0⟩]) (fun v0_0 v0_1 v0_2 => L_laws_toIntS_0 n m (S_laws_toIntS_0 v0_0 v0_1 v0_2)) v0_0 v0_1 v0_2 := by kernel_rfl
theorem a_laws_toIntS (n : Nat) (a0 : (List Int)) : absF tab sigs O_laws_toIntS A_laws_toIntS Try.f68 [((.slice 3 (.int .i64)), (.own 0))] n [.val (.slice 3 (.int .i64)) a0] = laws_toIntS (fun r0 => some [⟨(.slice 3 (.int .i64)), r0⟩]) (fun v0_0 v0_1 v0_2 => L_laws_toIntS_0 n n (S_laws_toIntS_0 v0_0 v0_1 v0_2)) a0 := by kernel_rfl
theorem said_laws_toIntS (a0 : (List Int)) (g : G.laws_toIntS a0 = true) : Said Try.prog sigs_68 68 [.val (.slice 3 (.int .i64)) a0] [⟨(.slice 3 (.int .i64)), N.laws_toIntS a0⟩] := said_len (T := tab) (A := A_laws_toIntS) tabOk ok_laws_toIntS tabOk.follows Try.func68 (by kernel_rfl) (by kernel_rfl) (fun hl => let ⟨n, hn⟩ := laws_toIntS_ok (ρ := Ret) (fun r0 => some [⟨(.slice 3 (.int .i64)), r0⟩]) a0 hl.1 g; ⟨n, (a_laws_toIntS n a0).trans (hn n (Nat.le_refl n) (fun  m v0_0 v0_1 v0_2 => L_laws_toIntS_0 n  m (S_laws_toIntS_0 v0_0 v0_1 v0_2)) (fun  m v0_0 v0_1 v0_2 => b_laws_toIntS_0 n  m v0_0 v0_1 v0_2))⟩)
/-! laws.toKeys -/
abbrev G.laws_toKeys (a : TKeys) : Bool := decide (wK a ≤ 1048576)
abbrev N.laws_toKeys (a : TKeys) : TKeys := a
def laws_toKeys {ρ : Type} (k : TKeys → Option ρ) (a0 : TKeys) : Option ρ := (cond (G.laws_toIntS a0.1) (k ((N.laws_toIntS a0.1), a0.2)) none)
theorem laws_toKeys_ok {ρ : Type} (k : TKeys → Option ρ) (a0 : TKeys) (l_a0 : (lnL (fun _ => True) a0.1 ∧ True)) (g : G.laws_toKeys a0 = true) : laws_toKeys k  a0 = k (N.laws_toKeys a0) := by
  unfold G.laws_toKeys at g
  show cond (decide (wK a0 ≤ 1048576)) _ none = _
  rw [g]
  rfl
def OP_laws_toKeys (f_laws_toIntS : (List Int) → (List Int)) (g_laws_toIntS : (List Int) → Bool) : Orac := (orcX 68 [.val (.slice 3 (.int .i64))] (fun d => g_laws_toIntS d.1) (fun d => [⟨(.slice 3 (.int .i64)), f_laws_toIntS d.1⟩]) nilO)
def O_laws_toKeys : Orac := OP_laws_toKeys N.laws_toIntS G.laws_toIntS
def laws_toKeys_P {ρ : Type} (f_laws_toIntS : (List Int) → (List Int)) (g_laws_toIntS : (List Int) → Bool) (k : TKeys → Option ρ) (a0 : TKeys) : Option ρ := (cond (g_laws_toIntS a0.1) (k ((f_laws_toIntS a0.1), a0.2)) none)
theorem ok_laws_toKeys : OracOk Try.prog sigs O_laws_toKeys := (orcX_ok rfl rfl (fun d g => said_laws_toIntS d.1 g) nilO_ok)
def A_laws_toKeys : Ann := fun b => ⟨[], []⟩
theorem aP_laws_toKeys (f_laws_toIntS : (List Int) → (List Int)) (g_laws_toIntS : (List Int) → Bool) (n : Nat) (a0 : TKeys) : absF tab sigs (OP_laws_toKeys f_laws_toIntS g_laws_toIntS) A_laws_toKeys Try.f33 [((.pair (.slice 3 (.int .i64)) (.int .i64)), (.pair (.own 0) .no))] n [.val (.pair (.slice 3 (.int .i64)) (.int .i64)) a0] = laws_toKeys_P f_laws_toIntS g_laws_toIntS (fun r0 => some [⟨(.pair (.slice 3 (.int .i64)) (.int .i64)), r0⟩])  a0 := by kernel_rfl
theorem a_laws_toKeys (n : Nat) (a0 : TKeys) : absF tab sigs O_laws_toKeys A_laws_toKeys Try.f33 [((.pair (.slice 3 (.int .i64)) (.int .i64)), (.pair (.own 0) .no))] n [.val (.pair (.slice 3 (.int .i64)) (.int .i64)) a0] = laws_toKeys (fun r0 => some [⟨(.pair (.slice 3 (.int .i64)) (.int .i64)), r0⟩])  a0 := aP_laws_toKeys N.laws_toIntS G.laws_toIntS n a0
theorem said_laws_toKeys (a0 : TKeys) (g : G.laws_toKeys a0 = true) : Said Try.prog sigs_33 33 [.val (.pair (.slice 3 (.int .i64)) (.int .i64)) a0] [⟨(.pair (.slice 3 (.int .i64)) (.int .i64)), N.laws_toKeys a0⟩] := said_len (T := tab) (A := A_laws_toKeys) tabOk ok_laws_toKeys tabOk.follows Try.func33 (by kernel_rfl) (by kernel_rfl) (fun hl => ⟨0, (a_laws_toKeys 0 a0).trans (laws_toKeys_ok (ρ := Ret) (fun r0 => some [⟨(.pair (.slice 3 (.int .i64)) (.int .i64)), r0⟩]) a0 hl.1 g)⟩)
/-! laws.toStringS -/
abbrev G.laws_toStringS (a : List ByteArray) : Bool := decide (a.length ≤ 1048576)
abbrev N.laws_toStringS (a : List ByteArray) : List ByteArray := a
def laws_toStringS_L0 {ρ : Type} (k : (List ByteArray) → Option ρ) (L0 : (List ByteArray) → Int → (List ByteArray) → Option ρ) (v0_0 : (List ByteArray)) (v0_1 : Int) (v0_2 : (List ByteArray)) : Option ρ := (cond (decide (v0_1 < (List.length v0_0 : Int))) (cond (inRange v0_1 (List.length v0_0)) (cond (inRange v0_1 (List.length v0_2)) (cond (inRange v0_1 (List.length v0_2)) (L0 v0_0 (IntKind.wrap .i64 (v0_1 + (1 : Int))) (List.set v0_2 (Int.toNat v0_1) (List.getD v0_0 (Int.toNat v0_1) ByteArray.empty))) none) none) none) (k v0_2))
def laws_toStringS {ρ : Type} (k : (List ByteArray) → Option ρ) (L0 : (List ByteArray) → Int → (List ByteArray) → Option ρ) (a0 : (List ByteArray)) : Option ρ := (cond (decide (0 ≤ (List.length a0 : Int)) && decide ((List.length a0 : Int) ≤ 549755813888)) (L0 a0 (0 : Int) (List.replicate (Int.toNat (List.length a0 : Int)) ByteArray.empty)) none)
theorem laws_toStringS_ok {ρ : Type} (k : (List ByteArray) → Option ρ) (a0 : (List ByteArray)) (l_a0 : lnL (fun _ => True) a0) (g : G.laws_toStringS a0 = true) : ∃ n0, ∀ n, n0 ≤ n → ∀ (L0 : Nat → (List ByteArray) → Int → (List ByteArray) → Option ρ) (h0 : ∀ ( m : Nat) (v0_0 : (List ByteArray)) (v0_1 : Int) (v0_2 : (List ByteArray)), L0 (m + 1) v0_0 v0_1 v0_2 = laws_toStringS_L0 k (L0 m) v0_0 v0_1 v0_2), laws_toStringS k (L0 n) a0 = k (N.laws_toStringS a0) := by
  unfold G.laws_toStringS at g
  refine ⟨a0.length + 1, fun n hn L0 h0 => ?_⟩
  have g' : a0.length ≤ 1048576 := by simpa using g
  have hg : (decide (0 ≤ (a0.length : Int)) && decide ((a0.length : Int) ≤ 549755813888)) = true := by simp; omega
  show cond _ _ none = _
  rw [hg]
  refine (raw_copy (a := a0) ByteArray.empty ByteArray.empty (fun x => x) (k := k) (L := fun m i out => L0 m a0 i out) (R := fun i out c => laws_toStringS_L0 k (fun _ i out => c i out) a0 i out) (fun m i s => h0 m a0 i s) (fun j out c hj hl => ?_) (fun s c => ?_) hn).trans (by simp)
  · simp [laws_toStringS_L0, lt_nat, inRange_nat, hj, hl, wrap_succ (j := j) (by unfold big; omega)]
  · simp [laws_toStringS_L0]
def O_laws_toStringS : Orac := nilO
theorem ok_laws_toStringS : OracOk Try.prog sigs O_laws_toStringS := nilO_ok
def A_laws_toStringS : Ann := fun b => cond (Nat.beq b 0) ⟨[(0, false), (3, true), (4, false)], []⟩ (⟨[], []⟩)
def S_laws_toStringS_0 (v0_0 : (List ByteArray)) (v0_1 : Int) (v0_2 : (List ByteArray)) : St := [(kT 0, some (.tv (.v (.slice 9 .str) v0_0 .no))), (kT 3, some (.tv (.v (.slice 9 .str) [] (.own 24)))), (kT 4, some (.tv (.v (.int .i64) v0_1 .no))), (kR 24, some (.row 9 .str v0_2))]
noncomputable def L_laws_toStringS_0 (n m : Nat) : St → Option Ret := loopOf tab sigs O_laws_toStringS A_laws_toStringS Try.f104 [((.slice 9 .str), (.own 0))] n (fun _ => 0) 0 m
theorem b_laws_toStringS_0 (n m : Nat) (v0_0 : (List ByteArray)) (v0_1 : Int) (v0_2 : (List ByteArray)) : L_laws_toStringS_0 n (m + 1) (S_laws_toStringS_0 v0_0 v0_1 v0_2) = laws_toStringS_L0 (fun r0 => some [⟨(.slice 9 .str), r0⟩]) (fun v0_0 v0_1 v0_2 => L_laws_toStringS_0 n m (S_laws_toStringS_0 v0_0 v0_1 v0_2)) v0_0 v0_1 v0_2 := by kernel_rfl
theorem a_laws_toStringS (n : Nat) (a0 : (List ByteArray)) : absF tab sigs O_laws_toStringS A_laws_toStringS Try.f104 [((.slice 9 .str), (.own 0))] n [.val (.slice 9 .str) a0] = laws_toStringS (fun r0 => some [⟨(.slice 9 .str), r0⟩]) (fun v0_0 v0_1 v0_2 => L_laws_toStringS_0 n n (S_laws_toStringS_0 v0_0 v0_1 v0_2)) a0 := by kernel_rfl
theorem said_laws_toStringS (a0 : (List ByteArray)) (g : G.laws_toStringS a0 = true) : Said Try.prog sigs_104 104 [.val (.slice 9 .str) a0] [⟨(.slice 9 .str), N.laws_toStringS a0⟩] := said_len (T := tab) (A := A_laws_toStringS) tabOk ok_laws_toStringS tabOk.follows Try.func104 (by kernel_rfl) (by kernel_rfl) (fun hl => let ⟨n, hn⟩ := laws_toStringS_ok (ρ := Ret) (fun r0 => some [⟨(.slice 9 .str), r0⟩]) a0 hl.1 g; ⟨n, (a_laws_toStringS n a0).trans (hn n (Nat.le_refl n) (fun  m v0_0 v0_1 v0_2 => L_laws_toStringS_0 n  m (S_laws_toStringS_0 v0_0 v0_1 v0_2)) (fun  m v0_0 v0_1 v0_2 => b_laws_toStringS_0 n  m v0_0 v0_1 v0_2))⟩)
/-! laws.toEntry -/
abbrev G.laws_toEntry (a : TEntry) : Bool := decide (wE a ≤ 1048576)
abbrev N.laws_toEntry (a : TEntry) : TEntry := a
def laws_toEntry {ρ : Type} (k : TEntry → Option ρ) (a0 : TEntry) : Option ρ := (cond (G.laws_toStringS a0.2.2.2) (k (a0.1, (a0.2.1, (a0.2.2.1, (N.laws_toStringS a0.2.2.2))))) none)
theorem laws_toEntry_ok {ρ : Type} (k : TEntry → Option ρ) (a0 : TEntry) (l_a0 : (True ∧ (True ∧ (True ∧ lnL (fun _ => True) a0.2.2.2)))) (g : G.laws_toEntry a0 = true) : laws_toEntry k  a0 = k (N.laws_toEntry a0) := by
  unfold G.laws_toEntry at g
  have g' : wE a0 ≤ 1048576 := by simpa using g
  unfold wE wP at g'
  have g1 : decide (a0.2.2.2.length ≤ 1048576) = true := by simp; omega
  simp only [laws_toEntry, G.laws_toStringS, g1, cond_true]
def OP_laws_toEntry (f_laws_toStringS : (List ByteArray) → (List ByteArray)) (g_laws_toStringS : (List ByteArray) → Bool) : Orac := (orcX 104 [.val (.slice 9 .str)] (fun d => g_laws_toStringS d.1) (fun d => [⟨(.slice 9 .str), f_laws_toStringS d.1⟩]) nilO)
def O_laws_toEntry : Orac := OP_laws_toEntry N.laws_toStringS G.laws_toStringS
def laws_toEntry_P {ρ : Type} (f_laws_toStringS : (List ByteArray) → (List ByteArray)) (g_laws_toStringS : (List ByteArray) → Bool) (k : TEntry → Option ρ) (a0 : TEntry) : Option ρ := (cond (g_laws_toStringS a0.2.2.2) (k (a0.1, (a0.2.1, (a0.2.2.1, (f_laws_toStringS a0.2.2.2))))) none)
theorem ok_laws_toEntry : OracOk Try.prog sigs O_laws_toEntry := (orcX_ok rfl rfl (fun d g => said_laws_toStringS d.1 g) nilO_ok)
def A_laws_toEntry : Ann := fun b => ⟨[], []⟩
theorem aP_laws_toEntry (f_laws_toStringS : (List ByteArray) → (List ByteArray)) (g_laws_toStringS : (List ByteArray) → Bool) (n : Nat) (a0 : TEntry) : absF tab sigs (OP_laws_toEntry f_laws_toStringS g_laws_toStringS) A_laws_toEntry Try.f69 [(TyEntry, (.pair .no (.pair .no (.pair .no (.own 0)))))] n [.val TyEntry a0] = laws_toEntry_P f_laws_toStringS g_laws_toStringS (fun r0 => some [⟨TyEntry, r0⟩])  a0 := by kernel_rfl
theorem a_laws_toEntry (n : Nat) (a0 : TEntry) : absF tab sigs O_laws_toEntry A_laws_toEntry Try.f69 [(TyEntry, (.pair .no (.pair .no (.pair .no (.own 0)))))] n [.val TyEntry a0] = laws_toEntry (fun r0 => some [⟨TyEntry, r0⟩])  a0 := aP_laws_toEntry N.laws_toStringS G.laws_toStringS n a0
theorem said_laws_toEntry (a0 : TEntry) (g : G.laws_toEntry a0 = true) : Said Try.prog sigs_69 69 [.val TyEntry a0] [⟨TyEntry, N.laws_toEntry a0⟩] := said_len (T := tab) (A := A_laws_toEntry) tabOk ok_laws_toEntry tabOk.follows Try.func69 (by kernel_rfl) (by kernel_rfl) (fun hl => ⟨0, (a_laws_toEntry 0 a0).trans (laws_toEntry_ok (ρ := Ret) (fun r0 => some [⟨TyEntry, r0⟩]) a0 hl.1 g)⟩)
/-! laws.toEntryS -/
abbrev G.laws_toEntryS (a : List TEntry) : Bool := decide (wEs a ≤ 1048576)
abbrev N.laws_toEntryS (a : List TEntry) : List TEntry := a
def laws_toEntryS_L0 {ρ : Type} (k : (List TEntry) → Option ρ) (L0 : (List TEntry) → Int → (List TEntry) → Option ρ) (v0_0 : (List TEntry)) (v0_1 : Int) (v0_2 : (List TEntry)) : Option ρ := (cond (decide (v0_1 < (List.length v0_0 : Int))) (cond (inRange v0_1 (List.length v0_0)) (cond (G.laws_toEntry (List.getD v0_0 (Int.toNat v0_1) (ByteArray.empty, ((0 : Int), ((0 : Int), []))))) (cond (inRange v0_1 (List.length v0_2)) (cond (inRange v0_1 (List.length v0_2)) (L0 v0_0 (IntKind.wrap .i64 (v0_1 + (1 : Int))) (List.set v0_2 (Int.toNat v0_1) (N.laws_toEntry (List.getD v0_0 (Int.toNat v0_1) (ByteArray.empty, ((0 : Int), ((0 : Int), []))))))) none) none) none) none) (k v0_2))
def laws_toEntryS {ρ : Type} (k : (List TEntry) → Option ρ) (L0 : (List TEntry) → Int → (List TEntry) → Option ρ) (a0 : (List TEntry)) : Option ρ := (cond (decide (0 ≤ (List.length a0 : Int)) && decide ((List.length a0 : Int) ≤ 549755813888)) (L0 a0 (0 : Int) (List.replicate (Int.toNat (List.length a0 : Int)) (ByteArray.empty, ((0 : Int), ((0 : Int), []))))) none)
theorem laws_toEntryS_ok {ρ : Type} (k : (List TEntry) → Option ρ) (a0 : (List TEntry)) (l_a0 : lnL (fun y => (True ∧ (True ∧ (True ∧ lnL (fun _ => True) y.2.2.2)))) a0) (g : G.laws_toEntryS a0 = true) : ∃ n0, ∀ n, n0 ≤ n → ∀ (L0 : Nat → (List TEntry) → Int → (List TEntry) → Option ρ) (h0 : ∀ ( m : Nat) (v0_0 : (List TEntry)) (v0_1 : Int) (v0_2 : (List TEntry)), L0 (m + 1) v0_0 v0_1 v0_2 = laws_toEntryS_L0 k (L0 m) v0_0 v0_1 v0_2), laws_toEntryS k (L0 n) a0 = k (N.laws_toEntryS a0) := by
  unfold G.laws_toEntryS at g
  refine ⟨a0.length + 1, fun n hn L0 h0 => ?_⟩
  have g' : wEs a0 ≤ 1048576 := by simpa using g
  have hl : a0.length ≤ 1048576 := by unfold wEs at g'; omega
  have hg : (decide (0 ≤ (a0.length : Int)) && decide ((a0.length : Int) ≤ 549755813888)) = true := by simp; omega
  show cond _ _ none = _
  rw [hg]
  refine (raw_copy (a := a0) (ByteArray.empty, (0, (0, []))) (ByteArray.empty, (0, (0, []))) (fun x => x) (k := k) (L := fun m i out => L0 m a0 i out) (R := fun i out c => laws_toEntryS_L0 k (fun _ i out => c i out) a0 i out) (fun m i s => h0 m a0 i s) (fun j out c hj hl => ?_) (fun s c => ?_) hn).trans (by simp)
  · have hw := wEs_mem (getD_mem (d := (ByteArray.empty, (0, (0, [])))) hj)
    have hw' : decide (wE (a0.getD j (ByteArray.empty, (0, (0, [])))) ≤ 1048576) = true := by simp only [decide_eq_true_eq]; omega
    simp only [laws_toEntryS_L0, G.laws_toEntry, lt_nat, inRange_nat, hj, hl, decide_true, cond_true, Int.toNat_natCast, hw', wrap_succ (j := j) (by unfold big; omega)]
  · simp [laws_toEntryS_L0]
def OP_laws_toEntryS (f_laws_toEntry : TEntry → TEntry) (g_laws_toEntry : TEntry → Bool) : Orac := (orcX 69 [.val TyEntry] (fun d => g_laws_toEntry d.1) (fun d => [⟨TyEntry, f_laws_toEntry d.1⟩]) nilO)
def O_laws_toEntryS : Orac := OP_laws_toEntryS N.laws_toEntry G.laws_toEntry
def laws_toEntryS_P_L0 {ρ : Type} (f_laws_toEntry : TEntry → TEntry) (g_laws_toEntry : TEntry → Bool) (k : (List TEntry) → Option ρ) (L0 : (List TEntry) → Int → (List TEntry) → Option ρ) (v0_0 : (List TEntry)) (v0_1 : Int) (v0_2 : (List TEntry)) : Option ρ := (cond (decide (v0_1 < (List.length v0_0 : Int))) (cond (inRange v0_1 (List.length v0_0)) (cond (g_laws_toEntry (List.getD v0_0 (Int.toNat v0_1) (ByteArray.empty, ((0 : Int), ((0 : Int), []))))) (cond (inRange v0_1 (List.length v0_2)) (cond (inRange v0_1 (List.length v0_2)) (L0 v0_0 (IntKind.wrap .i64 (v0_1 + (1 : Int))) (List.set v0_2 (Int.toNat v0_1) (f_laws_toEntry (List.getD v0_0 (Int.toNat v0_1) (ByteArray.empty, ((0 : Int), ((0 : Int), []))))))) none) none) none) none) (k v0_2))
def laws_toEntryS_P {ρ : Type} (f_laws_toEntry : TEntry → TEntry) (g_laws_toEntry : TEntry → Bool) (k : (List TEntry) → Option ρ) (L0 : (List TEntry) → Int → (List TEntry) → Option ρ) (a0 : (List TEntry)) : Option ρ := (cond (decide (0 ≤ (List.length a0 : Int)) && decide ((List.length a0 : Int) ≤ 549755813888)) (L0 a0 (0 : Int) (List.replicate (Int.toNat (List.length a0 : Int)) (ByteArray.empty, ((0 : Int), ((0 : Int), []))))) none)
theorem ok_laws_toEntryS : OracOk Try.prog sigs O_laws_toEntryS := (orcX_ok rfl rfl (fun d g => said_laws_toEntry d.1 g) nilO_ok)
def A_laws_toEntryS : Ann := fun b => cond (Nat.beq b 0) ⟨[(0, false), (3, true), (4, false)], []⟩ (⟨[], []⟩)
def S_laws_toEntryS_0 (v0_0 : (List TEntry)) (v0_1 : Int) (v0_2 : (List TEntry)) : St := [(kT 0, some (.tv (.v (.slice 84 TyEntry) v0_0 .no))), (kT 3, some (.tv (.v (.slice 89 TyEntry) [] (.own 24)))), (kT 4, some (.tv (.v (.int .i64) v0_1 .no))), (kR 24, some (.row 89 TyEntry v0_2))]
noncomputable def L_P_laws_toEntryS_0 (f_laws_toEntry : TEntry → TEntry) (g_laws_toEntry : TEntry → Bool) (n m : Nat) : St → Option Ret := loopOf tab sigs (OP_laws_toEntryS f_laws_toEntry g_laws_toEntry) A_laws_toEntryS Try.f34 [((.slice 89 TyEntry), (.own 0))] n (fun _ => 0) 0 m
noncomputable def L_laws_toEntryS_0 (n m : Nat) : St → Option Ret := L_P_laws_toEntryS_0 N.laws_toEntry G.laws_toEntry n m
theorem bP_laws_toEntryS_0 (f_laws_toEntry : TEntry → TEntry) (g_laws_toEntry : TEntry → Bool) (n m : Nat) (v0_0 : (List TEntry)) (v0_1 : Int) (v0_2 : (List TEntry)) : L_P_laws_toEntryS_0 f_laws_toEntry g_laws_toEntry n (m + 1) (S_laws_toEntryS_0 v0_0 v0_1 v0_2) = laws_toEntryS_P_L0 f_laws_toEntry g_laws_toEntry (fun r0 => some [⟨(.slice 89 TyEntry), r0⟩]) (fun v0_0 v0_1 v0_2 => L_P_laws_toEntryS_0 f_laws_toEntry g_laws_toEntry n m (S_laws_toEntryS_0 v0_0 v0_1 v0_2)) v0_0 v0_1 v0_2 := by kernel_rfl
theorem b_laws_toEntryS_0 (n m : Nat) (v0_0 : (List TEntry)) (v0_1 : Int) (v0_2 : (List TEntry)) : L_laws_toEntryS_0 n (m + 1) (S_laws_toEntryS_0 v0_0 v0_1 v0_2) = laws_toEntryS_L0 (fun r0 => some [⟨(.slice 89 TyEntry), r0⟩]) (fun v0_0 v0_1 v0_2 => L_laws_toEntryS_0 n m (S_laws_toEntryS_0 v0_0 v0_1 v0_2)) v0_0 v0_1 v0_2 := bP_laws_toEntryS_0 N.laws_toEntry G.laws_toEntry n m v0_0 v0_1 v0_2
theorem aP_laws_toEntryS (f_laws_toEntry : TEntry → TEntry) (g_laws_toEntry : TEntry → Bool) (n : Nat) (a0 : (List TEntry)) : absF tab sigs (OP_laws_toEntryS f_laws_toEntry g_laws_toEntry) A_laws_toEntryS Try.f34 [((.slice 89 TyEntry), (.own 0))] n [.val (.slice 84 TyEntry) a0] = laws_toEntryS_P f_laws_toEntry g_laws_toEntry (fun r0 => some [⟨(.slice 89 TyEntry), r0⟩]) (fun v0_0 v0_1 v0_2 => L_P_laws_toEntryS_0 f_laws_toEntry g_laws_toEntry n n (S_laws_toEntryS_0 v0_0 v0_1 v0_2)) a0 := by kernel_rfl
theorem a_laws_toEntryS (n : Nat) (a0 : (List TEntry)) : absF tab sigs O_laws_toEntryS A_laws_toEntryS Try.f34 [((.slice 89 TyEntry), (.own 0))] n [.val (.slice 84 TyEntry) a0] = laws_toEntryS (fun r0 => some [⟨(.slice 89 TyEntry), r0⟩]) (fun v0_0 v0_1 v0_2 => L_laws_toEntryS_0 n n (S_laws_toEntryS_0 v0_0 v0_1 v0_2)) a0 := aP_laws_toEntryS N.laws_toEntry G.laws_toEntry n a0
theorem said_laws_toEntryS (a0 : (List TEntry)) (g : G.laws_toEntryS a0 = true) : Said Try.prog sigs_34 34 [.val (.slice 84 TyEntry) a0] [⟨(.slice 89 TyEntry), N.laws_toEntryS a0⟩] := said_len (T := tab) (A := A_laws_toEntryS) tabOk ok_laws_toEntryS tabOk.follows Try.func34 (by kernel_rfl) (by kernel_rfl) (fun hl => let ⟨n, hn⟩ := laws_toEntryS_ok (ρ := Ret) (fun r0 => some [⟨(.slice 89 TyEntry), r0⟩]) a0 hl.1 g; ⟨n, (a_laws_toEntryS n a0).trans (hn n (Nat.le_refl n) (fun  m v0_0 v0_1 v0_2 => L_laws_toEntryS_0 n  m (S_laws_toEntryS_0 v0_0 v0_1 v0_2)) (fun  m v0_0 v0_1 v0_2 => b_laws_toEntryS_0 n  m v0_0 v0_1 v0_2))⟩)
/-! spec.l1In -/
abbrev N.spec_l1In (n lo hi : Int) : Bool := inR n lo hi
def spec_l1In {ρ : Type} (k : Bool → Option ρ) (a0 : Int) (a1 : Int) (a2 : Int) : Option ρ := (cond (decide (a0 ≥ a1)) (k (decide (a0 ≤ a2))) (k false))
theorem spec_l1In_ok {ρ : Type} (k : Bool → Option ρ) (a0 : Int) (a1 : Int) (a2 : Int) : spec_l1In k  a0 a1 a2 = k (N.spec_l1In a0 a1 a2) := by
  simp only [spec_l1In, inR, ge_iff_le]
  cases decide (a1 ≤ a0) <;> rfl
def O_spec_l1In : Orac := nilO
theorem ok_spec_l1In : OracOk Try.prog sigs O_spec_l1In := nilO_ok
def A_spec_l1In : Ann := fun b => ⟨[], []⟩
theorem a_spec_l1In (n : Nat) (a0 : Int) (a1 : Int) (a2 : Int) : absF tab sigs O_spec_l1In A_spec_l1In Try.f65 [(.bool, .no)] n [.val (.int .i64) a0, .val (.int .i64) a1, .val (.int .i64) a2] = spec_l1In (fun r0 => some [⟨.bool, r0⟩])  a0 a1 a2 := by kernel_rfl
theorem said_spec_l1In (a0 : Int) (a1 : Int) (a2 : Int) : Said Try.prog sigs_65 65 [.val (.int .i64) a0, .val (.int .i64) a1, .val (.int .i64) a2] [⟨.bool, N.spec_l1In a0 a1 a2⟩] := said_len (T := tab) (A := A_spec_l1In) tabOk ok_spec_l1In tabOk.follows Try.func65 (by kernel_rfl) (by kernel_rfl) (fun hl => ⟨0, (a_spec_l1In 0 a0 a1 a2).trans (spec_l1In_ok (ρ := Ret) (fun r0 => some [⟨.bool, r0⟩]) a0 a1 a2)⟩)
/-! spec.IsLabel -/
abbrev G.spec_IsLabel (s : ByteArray) : Bool := decide (s.size ≤ 1048576)
abbrev N.spec_IsLabel (s : ByteArray) : Bool := isLabel s
def spec_IsLabel_L0 {ρ : Type} (k : Bool → Option ρ) (L0 : ByteArray → Int → Option ρ) (v0_0 : ByteArray) (v0_1 : Int) : Option ρ := (cond (decide (v0_1 < (ByteArray.size v0_0 : Int))) (cond (inRange v0_1 (ByteArray.size v0_0)) (cond (decide ((bt v0_0 v0_1) < (97 : Int))) (cond (inRange v0_1 (ByteArray.size v0_0)) (cond (decide ((bt v0_0 v0_1) < (48 : Int))) (cond (inRange v0_1 (ByteArray.size v0_0)) (cond ((bt v0_0 v0_1) != (45 : Int)) (k false) (L0 v0_0 (IntKind.wrap .i64 (v0_1 + (1 : Int))))) none) (cond (inRange v0_1 (ByteArray.size v0_0)) (cond (decide ((bt v0_0 v0_1) > (57 : Int))) (cond (inRange v0_1 (ByteArray.size v0_0)) (cond ((bt v0_0 v0_1) != (45 : Int)) (k false) (L0 v0_0 (IntKind.wrap .i64 (v0_1 + (1 : Int))))) none) (L0 v0_0 (IntKind.wrap .i64 (v0_1 + (1 : Int))))) none)) none) (cond (inRange v0_1 (ByteArray.size v0_0)) (cond (decide ((bt v0_0 v0_1) > (122 : Int))) (cond (inRange v0_1 (ByteArray.size v0_0)) (cond (decide ((bt v0_0 v0_1) < (48 : Int))) (cond (inRange v0_1 (ByteArray.size v0_0)) (cond ((bt v0_0 v0_1) != (45 : Int)) (k false) (L0 v0_0 (IntKind.wrap .i64 (v0_1 + (1 : Int))))) none) (cond (inRange v0_1 (ByteArray.size v0_0)) (cond (decide ((bt v0_0 v0_1) > (57 : Int))) (cond (inRange v0_1 (ByteArray.size v0_0)) (cond ((bt v0_0 v0_1) != (45 : Int)) (k false) (L0 v0_0 (IntKind.wrap .i64 (v0_1 + (1 : Int))))) none) (L0 v0_0 (IntKind.wrap .i64 (v0_1 + (1 : Int))))) none)) none) (L0 v0_0 (IntKind.wrap .i64 (v0_1 + (1 : Int))))) none)) none) (k true))
def spec_IsLabel {ρ : Type} (k : Bool → Option ρ) (L0 : ByteArray → Int → Option ρ) (a0 : ByteArray) : Option ρ := (cond (!(N.spec_l1In (ByteArray.size a0 : Int) (1 : Int) (8 : Int))) (k false) (cond (inRange (0 : Int) (ByteArray.size a0)) (cond ((bt a0 (0 : Int)) == (45 : Int)) (k false) (cond (inRange (IntKind.wrap .i64 ((ByteArray.size a0 : Int) - (1 : Int))) (ByteArray.size a0)) (cond ((bt a0 (IntKind.wrap .i64 ((ByteArray.size a0 : Int) - (1 : Int)))) == (45 : Int)) (k false) (L0 a0 (0 : Int))) none)) none))
theorem spec_IsLabel_ok {ρ : Type} (k : Bool → Option ρ) (a0 : ByteArray) (g : G.spec_IsLabel a0 = true) : ∃ n0, ∀ n, n0 ≤ n → ∀ (L0 : Nat → ByteArray → Int → Option ρ) (h0 : ∀ ( m : Nat) (v0_0 : ByteArray) (v0_1 : Int), L0 (m + 1) v0_0 v0_1 = spec_IsLabel_L0 k (L0 m) v0_0 v0_1), spec_IsLabel k (L0 n) a0 = k (N.spec_IsLabel a0) := by
  unfold G.spec_IsLabel at g
  have hlen : a0.size ≤ 1048576 := of_decide_eq_true g
  refine ⟨a0.size + 1, fun n hn L0 h0 => ?_⟩
  show spec_IsLabel k (L0 n) a0 = k (isLabel a0)
  unfold spec_IsLabel isLabel
  dsimp only [N.spec_l1In]
  cases hr : inR (a0.size : Int) 1 8 with
  | false => rfl
  | true =>
    have hr2 : 1 ≤ (a0.size : Int) ∧ (a0.size : Int) ≤ 8 := by simpa [inR] using hr
    have e0 : inRange 0 a0.size = true := by unfold inRange; simp; omega
    have e1 : IntKind.wrap .i64 ((a0.size : Int) - 1) = ((a0.size - 1 : Nat) : Int) := by rw [wrap_id (by omega) (by omega)]; omega
    have e2 : inRange ((a0.size - 1 : Nat) : Int) a0.size = true := by rw [inRange_nat]; simp; omega
    have hrun := raw_run0 (σ := Unit) (s := ()) (L := fun m i _ => L0 m a0 i) (R := fun i _ c => spec_IsLabel_L0 k (fun _ i => c i ()) a0 i) (fun m i s => h0 m a0 i) a0.size (fun _ _ => True) (fun j _ => k (charsFrom a0 (a0.size - j) j)) (fun j s c hj _ hc => ?_) (fun s c _ => ?_) hn trivial
    · rw [e1]
      simp only [e0, e2, cond_true, Bool.not_true, cond_false]
      rw [hrun, Nat.sub_zero, label_edges a0 (by omega)]
      cases bt a0 0 == 45 <;> cases bt a0 ((a0.size - 1 : Nat) : Int) == 45 <;> simp
    · obtain ⟨m, hm⟩ : ∃ m, a0.size - j = m + 1 := ⟨a0.size - j - 1, by omega⟩
      have hm2 : a0.size - (j + 1) = m := by omega
      have hc' := hc () trivial
      rw [hm2] at hc'
      rw [hm]
      unfold charsFrom
      simp only [spec_IsLabel_L0, lt_nat, inRange_nat, decide_eq_true hj, cond_true, wrap_succ (j := j) (by unfold big; omega), hc']
      generalize bt a0 (j : Int) = b
      exact char_spec k b _
    · rw [Nat.sub_self]
      simp [spec_IsLabel_L0, charsFrom]
def OP_spec_IsLabel (f_spec_l1In : Int → Int → Int → Bool) : Orac := (orcX 65 [.val (.int .i64), .val (.int .i64), .val (.int .i64)] (fun d => true) (fun d => [⟨.bool, f_spec_l1In d.1 d.2.1 d.2.2.1⟩]) nilO)
def O_spec_IsLabel : Orac := OP_spec_IsLabel N.spec_l1In
def spec_IsLabel_P_L0 {ρ : Type} (f_spec_l1In : Int → Int → Int → Bool) (k : Bool → Option ρ) (L0 : ByteArray → Int → Option ρ) (v0_0 : ByteArray) (v0_1 : Int) : Option ρ := (cond (decide (v0_1 < (ByteArray.size v0_0 : Int))) (cond (inRange v0_1 (ByteArray.size v0_0)) (cond (decide ((bt v0_0 v0_1) < (97 : Int))) (cond (inRange v0_1 (ByteArray.size v0_0)) (cond (decide ((bt v0_0 v0_1) < (48 : Int))) (cond (inRange v0_1 (ByteArray.size v0_0)) (cond ((bt v0_0 v0_1) != (45 : Int)) (k false) (L0 v0_0 (IntKind.wrap .i64 (v0_1 + (1 : Int))))) none) (cond (inRange v0_1 (ByteArray.size v0_0)) (cond (decide ((bt v0_0 v0_1) > (57 : Int))) (cond (inRange v0_1 (ByteArray.size v0_0)) (cond ((bt v0_0 v0_1) != (45 : Int)) (k false) (L0 v0_0 (IntKind.wrap .i64 (v0_1 + (1 : Int))))) none) (L0 v0_0 (IntKind.wrap .i64 (v0_1 + (1 : Int))))) none)) none) (cond (inRange v0_1 (ByteArray.size v0_0)) (cond (decide ((bt v0_0 v0_1) > (122 : Int))) (cond (inRange v0_1 (ByteArray.size v0_0)) (cond (decide ((bt v0_0 v0_1) < (48 : Int))) (cond (inRange v0_1 (ByteArray.size v0_0)) (cond ((bt v0_0 v0_1) != (45 : Int)) (k false) (L0 v0_0 (IntKind.wrap .i64 (v0_1 + (1 : Int))))) none) (cond (inRange v0_1 (ByteArray.size v0_0)) (cond (decide ((bt v0_0 v0_1) > (57 : Int))) (cond (inRange v0_1 (ByteArray.size v0_0)) (cond ((bt v0_0 v0_1) != (45 : Int)) (k false) (L0 v0_0 (IntKind.wrap .i64 (v0_1 + (1 : Int))))) none) (L0 v0_0 (IntKind.wrap .i64 (v0_1 + (1 : Int))))) none)) none) (L0 v0_0 (IntKind.wrap .i64 (v0_1 + (1 : Int))))) none)) none) (k true))
def spec_IsLabel_P {ρ : Type} (f_spec_l1In : Int → Int → Int → Bool) (k : Bool → Option ρ) (L0 : ByteArray → Int → Option ρ) (a0 : ByteArray) : Option ρ := (cond (!(f_spec_l1In (ByteArray.size a0 : Int) (1 : Int) (8 : Int))) (k false) (cond (inRange (0 : Int) (ByteArray.size a0)) (cond ((bt a0 (0 : Int)) == (45 : Int)) (k false) (cond (inRange (IntKind.wrap .i64 ((ByteArray.size a0 : Int) - (1 : Int))) (ByteArray.size a0)) (cond ((bt a0 (IntKind.wrap .i64 ((ByteArray.size a0 : Int) - (1 : Int)))) == (45 : Int)) (k false) (L0 a0 (0 : Int))) none)) none))
theorem ok_spec_IsLabel : OracOk Try.prog sigs O_spec_IsLabel := (orcX_ok rfl rfl (fun d g => said_spec_l1In d.1 d.2.1 d.2.2.1) nilO_ok)
def A_spec_IsLabel : Ann := fun b => cond (Nat.beq b 0) ⟨[(0, false), (3, false)], []⟩ (⟨[], []⟩)
def S_spec_IsLabel_0 (v0_0 : ByteArray) (v0_1 : Int) : St := [(kT 0, some (.tv (.v .str v0_0 .no))), (kT 3, some (.tv (.v (.int .i64) v0_1 .no)))]
noncomputable def L_P_spec_IsLabel_0 (f_spec_l1In : Int → Int → Int → Bool) (n m : Nat) : St → Option Ret := loopOf tab sigs (OP_spec_IsLabel f_spec_l1In) A_spec_IsLabel Try.f121 [(.bool, .no)] n (fun _ => 0) 0 m
noncomputable def L_spec_IsLabel_0 (n m : Nat) : St → Option Ret := L_P_spec_IsLabel_0 N.spec_l1In n m
theorem bP_spec_IsLabel_0 (f_spec_l1In : Int → Int → Int → Bool) (n m : Nat) (v0_0 : ByteArray) (v0_1 : Int) : L_P_spec_IsLabel_0 f_spec_l1In n (m + 1) (S_spec_IsLabel_0 v0_0 v0_1) = spec_IsLabel_P_L0 f_spec_l1In (fun r0 => some [⟨.bool, r0⟩]) (fun v0_0 v0_1 => L_P_spec_IsLabel_0 f_spec_l1In n m (S_spec_IsLabel_0 v0_0 v0_1)) v0_0 v0_1 := by kernel_rfl
theorem b_spec_IsLabel_0 (n m : Nat) (v0_0 : ByteArray) (v0_1 : Int) : L_spec_IsLabel_0 n (m + 1) (S_spec_IsLabel_0 v0_0 v0_1) = spec_IsLabel_L0 (fun r0 => some [⟨.bool, r0⟩]) (fun v0_0 v0_1 => L_spec_IsLabel_0 n m (S_spec_IsLabel_0 v0_0 v0_1)) v0_0 v0_1 := bP_spec_IsLabel_0 N.spec_l1In n m v0_0 v0_1
theorem aP_spec_IsLabel (f_spec_l1In : Int → Int → Int → Bool) (n : Nat) (a0 : ByteArray) : absF tab sigs (OP_spec_IsLabel f_spec_l1In) A_spec_IsLabel Try.f121 [(.bool, .no)] n [.val .str a0] = spec_IsLabel_P f_spec_l1In (fun r0 => some [⟨.bool, r0⟩]) (fun v0_0 v0_1 => L_P_spec_IsLabel_0 f_spec_l1In n n (S_spec_IsLabel_0 v0_0 v0_1)) a0 := by kernel_rfl
theorem a_spec_IsLabel (n : Nat) (a0 : ByteArray) : absF tab sigs O_spec_IsLabel A_spec_IsLabel Try.f121 [(.bool, .no)] n [.val .str a0] = spec_IsLabel (fun r0 => some [⟨.bool, r0⟩]) (fun v0_0 v0_1 => L_spec_IsLabel_0 n n (S_spec_IsLabel_0 v0_0 v0_1)) a0 := aP_spec_IsLabel N.spec_l1In n a0
theorem said_spec_IsLabel (a0 : ByteArray) (g : G.spec_IsLabel a0 = true) : Said Try.prog sigs_121 121 [.val .str a0] [⟨.bool, N.spec_IsLabel a0⟩] := said_len (T := tab) (A := A_spec_IsLabel) tabOk ok_spec_IsLabel tabOk.follows Try.func121 (by kernel_rfl) (by kernel_rfl) (fun hl => let ⟨n, hn⟩ := spec_IsLabel_ok (ρ := Ret) (fun r0 => some [⟨.bool, r0⟩]) a0 g; ⟨n, (a_spec_IsLabel n a0).trans (hn n (Nat.le_refl n) (fun  m v0_0 v0_1 => L_spec_IsLabel_0 n  m (S_spec_IsLabel_0 v0_0 v0_1)) (fun  m v0_0 v0_1 => b_spec_IsLabel_0 n  m v0_0 v0_1))⟩)
/-! spec.IsPath -/
abbrev G.spec_IsPath (p : List ByteArray) : Bool := decide (wP p ≤ 1048576)
abbrev N.spec_IsPath (p : List ByteArray) : Bool := isPath p
def spec_IsPath_L0 {ρ : Type} (k : Bool → Option ρ) (L0 : (List ByteArray) → Int → Option ρ) (v0_0 : (List ByteArray)) (v0_1 : Int) : Option ρ := (cond (decide (v0_1 < (List.length v0_0 : Int))) (cond (inRange v0_1 (List.length v0_0)) (cond (G.spec_IsLabel (List.getD v0_0 (Int.toNat v0_1) ByteArray.empty)) (cond (!(N.spec_IsLabel (List.getD v0_0 (Int.toNat v0_1) ByteArray.empty))) (k false) (L0 v0_0 (IntKind.wrap .i64 (v0_1 + (1 : Int))))) none) none) (k (N.spec_l1In (List.length v0_0 : Int) (1 : Int) (4 : Int))))
def spec_IsPath {ρ : Type} (k : Bool → Option ρ) (L0 : (List ByteArray) → Int → Option ρ) (a0 : (List ByteArray)) : Option ρ := (L0 a0 (0 : Int))
theorem spec_IsPath_ok {ρ : Type} (k : Bool → Option ρ) (a0 : (List ByteArray)) (l_a0 : lnL (fun _ => True) a0) (g : G.spec_IsPath a0 = true) : ∃ n0, ∀ n, n0 ≤ n → ∀ (L0 : Nat → (List ByteArray) → Int → Option ρ) (h0 : ∀ ( m : Nat) (v0_0 : (List ByteArray)) (v0_1 : Int), L0 (m + 1) v0_0 v0_1 = spec_IsPath_L0 k (L0 m) v0_0 v0_1), spec_IsPath k (L0 n) a0 = k (N.spec_IsPath a0) := by
  unfold G.spec_IsPath at g
  have hw : wP a0 ≤ 1048576 := of_decide_eq_true g
  have hl : a0.length ≤ 1048576 := by unfold wP at hw; omega
  refine ⟨a0.length + 1, fun n hn L0 h0 => ?_⟩
  refine (raw_all (a := a0) ByteArray.empty isLabel (σ := Unit) (s := ()) (r := k false) (e := fun _ => k (inR (a0.length : Int) 1 4)) (L := fun m i _ => L0 m a0 i) (R := fun i _ c => spec_IsPath_L0 k (fun _ i => c i ()) a0 i) (fun m i s => h0 m a0 i) (fun j s c hj => ?_) (fun s c => ?_) hn).trans ?_
  · have hm := wP_mem (getD_mem (d := ByteArray.empty) hj)
    have g2 : decide ((a0.getD j ByteArray.empty).size ≤ 1048576) = true := by simp only [decide_eq_true_eq]; omega
    simp only [spec_IsPath_L0, lt_nat, inRange_nat, decide_eq_true hj, cond_true, Int.toNat_natCast, G.spec_IsLabel, N.spec_IsLabel, g2, wrap_succ (j := j) (by unfold big; omega)]
    cases isLabel (a0.getD j ByteArray.empty) <;> rfl
  · simp [spec_IsPath_L0]
  · show _ = k (inR (a0.length : Int) 1 4 && a0.all isLabel)
    cases a0.all isLabel <;> cases inR (a0.length : Int) 1 4 <;> rfl
def OP_spec_IsPath (f_spec_IsLabel : ByteArray → Bool) (g_spec_IsLabel : ByteArray → Bool) (f_spec_l1In : Int → Int → Int → Bool) : Orac := (orcX 65 [.val (.int .i64), .val (.int .i64), .val (.int .i64)] (fun d => true) (fun d => [⟨.bool, f_spec_l1In d.1 d.2.1 d.2.2.1⟩]) (orcX 121 [.val .str] (fun d => g_spec_IsLabel d.1) (fun d => [⟨.bool, f_spec_IsLabel d.1⟩]) nilO))
def O_spec_IsPath : Orac := OP_spec_IsPath N.spec_IsLabel G.spec_IsLabel N.spec_l1In
def spec_IsPath_P_L0 {ρ : Type} (f_spec_IsLabel : ByteArray → Bool) (g_spec_IsLabel : ByteArray → Bool) (f_spec_l1In : Int → Int → Int → Bool) (k : Bool → Option ρ) (L0 : (List ByteArray) → Int → Option ρ) (v0_0 : (List ByteArray)) (v0_1 : Int) : Option ρ := (cond (decide (v0_1 < (List.length v0_0 : Int))) (cond (inRange v0_1 (List.length v0_0)) (cond (g_spec_IsLabel (List.getD v0_0 (Int.toNat v0_1) ByteArray.empty)) (cond (!(f_spec_IsLabel (List.getD v0_0 (Int.toNat v0_1) ByteArray.empty))) (k false) (L0 v0_0 (IntKind.wrap .i64 (v0_1 + (1 : Int))))) none) none) (k (f_spec_l1In (List.length v0_0 : Int) (1 : Int) (4 : Int))))
def spec_IsPath_P {ρ : Type} (f_spec_IsLabel : ByteArray → Bool) (g_spec_IsLabel : ByteArray → Bool) (f_spec_l1In : Int → Int → Int → Bool) (k : Bool → Option ρ) (L0 : (List ByteArray) → Int → Option ρ) (a0 : (List ByteArray)) : Option ρ := (L0 a0 (0 : Int))
theorem ok_spec_IsPath : OracOk Try.prog sigs O_spec_IsPath := (orcX_ok rfl rfl (fun d g => said_spec_l1In d.1 d.2.1 d.2.2.1) (orcX_ok rfl rfl (fun d g => said_spec_IsLabel d.1 g) nilO_ok))
def A_spec_IsPath : Ann := fun b => cond (Nat.beq b 0) ⟨[(0, false), (3, false)], []⟩ (⟨[], []⟩)
def S_spec_IsPath_0 (v0_0 : (List ByteArray)) (v0_1 : Int) : St := [(kT 0, some (.tv (.v (.slice 9 .str) v0_0 .no))), (kT 3, some (.tv (.v (.int .i64) v0_1 .no)))]
noncomputable def L_P_spec_IsPath_0 (f_spec_IsLabel : ByteArray → Bool) (g_spec_IsLabel : ByteArray → Bool) (f_spec_l1In : Int → Int → Int → Bool) (n m : Nat) : St → Option Ret := loopOf tab sigs (OP_spec_IsPath f_spec_IsLabel g_spec_IsLabel f_spec_l1In) A_spec_IsPath Try.f122 [(.bool, .no)] n (fun _ => 0) 0 m
noncomputable def L_spec_IsPath_0 (n m : Nat) : St → Option Ret := L_P_spec_IsPath_0 N.spec_IsLabel G.spec_IsLabel N.spec_l1In n m
theorem bP_spec_IsPath_0 (f_spec_IsLabel : ByteArray → Bool) (g_spec_IsLabel : ByteArray → Bool) (f_spec_l1In : Int → Int → Int → Bool) (n m : Nat) (v0_0 : (List ByteArray)) (v0_1 : Int) : L_P_spec_IsPath_0 f_spec_IsLabel g_spec_IsLabel f_spec_l1In n (m + 1) (S_spec_IsPath_0 v0_0 v0_1) = spec_IsPath_P_L0 f_spec_IsLabel g_spec_IsLabel f_spec_l1In (fun r0 => some [⟨.bool, r0⟩]) (fun v0_0 v0_1 => L_P_spec_IsPath_0 f_spec_IsLabel g_spec_IsLabel f_spec_l1In n m (S_spec_IsPath_0 v0_0 v0_1)) v0_0 v0_1 := by kernel_rfl
theorem b_spec_IsPath_0 (n m : Nat) (v0_0 : (List ByteArray)) (v0_1 : Int) : L_spec_IsPath_0 n (m + 1) (S_spec_IsPath_0 v0_0 v0_1) = spec_IsPath_L0 (fun r0 => some [⟨.bool, r0⟩]) (fun v0_0 v0_1 => L_spec_IsPath_0 n m (S_spec_IsPath_0 v0_0 v0_1)) v0_0 v0_1 := bP_spec_IsPath_0 N.spec_IsLabel G.spec_IsLabel N.spec_l1In n m v0_0 v0_1
theorem aP_spec_IsPath (f_spec_IsLabel : ByteArray → Bool) (g_spec_IsLabel : ByteArray → Bool) (f_spec_l1In : Int → Int → Int → Bool) (n : Nat) (a0 : (List ByteArray)) : absF tab sigs (OP_spec_IsPath f_spec_IsLabel g_spec_IsLabel f_spec_l1In) A_spec_IsPath Try.f122 [(.bool, .no)] n [.val (.slice 9 .str) a0] = spec_IsPath_P f_spec_IsLabel g_spec_IsLabel f_spec_l1In (fun r0 => some [⟨.bool, r0⟩]) (fun v0_0 v0_1 => L_P_spec_IsPath_0 f_spec_IsLabel g_spec_IsLabel f_spec_l1In n n (S_spec_IsPath_0 v0_0 v0_1)) a0 := by kernel_rfl
theorem a_spec_IsPath (n : Nat) (a0 : (List ByteArray)) : absF tab sigs O_spec_IsPath A_spec_IsPath Try.f122 [(.bool, .no)] n [.val (.slice 9 .str) a0] = spec_IsPath (fun r0 => some [⟨.bool, r0⟩]) (fun v0_0 v0_1 => L_spec_IsPath_0 n n (S_spec_IsPath_0 v0_0 v0_1)) a0 := aP_spec_IsPath N.spec_IsLabel G.spec_IsLabel N.spec_l1In n a0
theorem said_spec_IsPath (a0 : (List ByteArray)) (g : G.spec_IsPath a0 = true) : Said Try.prog sigs_122 122 [.val (.slice 9 .str) a0] [⟨.bool, N.spec_IsPath a0⟩] := said_len (T := tab) (A := A_spec_IsPath) tabOk ok_spec_IsPath tabOk.follows Try.func122 (by kernel_rfl) (by kernel_rfl) (fun hl => let ⟨n, hn⟩ := spec_IsPath_ok (ρ := Ret) (fun r0 => some [⟨.bool, r0⟩]) a0 hl.1 g; ⟨n, (a_spec_IsPath n a0).trans (hn n (Nat.le_refl n) (fun  m v0_0 v0_1 => L_spec_IsPath_0 n  m (S_spec_IsPath_0 v0_0 v0_1)) (fun  m v0_0 v0_1 => b_spec_IsPath_0 n  m v0_0 v0_1))⟩)
/-! spec.IsEntry -/
abbrev G.spec_IsEntry (e : TEntry) : Bool := decide (wE e ≤ 1048576)
abbrev N.spec_IsEntry (e : TEntry) : Bool := isEntry e
def spec_IsEntry {ρ : Type} (k : Bool → Option ρ) (a0 : TEntry) : Option ρ := (cond (a0.2.1 == (1 : Int)) (cond (G.spec_IsLabel a0.1) (cond (N.spec_IsLabel a0.1) (cond (N.spec_l1In a0.2.2.1 (0 : Int) (999999 : Int)) (k ((List.length a0.2.2.2 : Int) == (0 : Int))) (k false)) (k false)) none) (cond (a0.2.1 == (2 : Int)) (cond (G.spec_IsLabel a0.1) (cond (N.spec_IsLabel a0.1) (cond (N.spec_l1In a0.2.2.1 (0 : Int) (2147483646 : Int)) (k ((List.length a0.2.2.2 : Int) == (0 : Int))) (k false)) (k false)) none) (cond (a0.2.1 == (3 : Int)) (cond (G.spec_IsLabel a0.1) (cond (N.spec_IsLabel a0.1) (cond (N.spec_l1In a0.2.2.1 (0 : Int) (2147483646 : Int)) (cond (G.spec_IsPath a0.2.2.2) (k (N.spec_IsPath a0.2.2.2)) none) (k false)) (k false)) none) (k false))))
theorem spec_IsEntry_ok {ρ : Type} (k : Bool → Option ρ) (a0 : TEntry) (l_a0 : (True ∧ (True ∧ (True ∧ lnL (fun _ => True) a0.2.2.2)))) (g : G.spec_IsEntry a0 = true) : spec_IsEntry k  a0 = k (N.spec_IsEntry a0) := by
  unfold G.spec_IsEntry at g
  have hw : wE a0 ≤ 1048576 := of_decide_eq_true g
  have g1 : decide (a0.1.size ≤ 1048576) = true := by unfold wE at hw; simp; omega
  have g2 : decide (wP a0.2.2.2 ≤ 1048576) = true := by unfold wE at hw; simp; omega
  simp only [spec_IsEntry, G.spec_IsLabel, N.spec_IsLabel, G.spec_IsPath, N.spec_IsPath, N.spec_l1In, g1, g2, cond_true, isEntry, isDigest]
  by_cases h1 : a0.2.1 = 1
  · have e1 : (a0.2.1 == 1) = true := by simp [h1]
    have e2 : (a0.2.1 == 2) = false := by simp [h1]
    have e3 : (a0.2.1 == 3) = false := by simp [h1]
    simp only [e1, e2, e3]
    cases isLabel a0.1 <;> cases inR a0.2.2.1 0 999999 <;> simp
  by_cases h2 : a0.2.1 = 2
  · have e1 : (a0.2.1 == 1) = false := by simp [h2]
    have e2 : (a0.2.1 == 2) = true := by simp [h2]
    have e3 : (a0.2.1 == 3) = false := by simp [h2]
    simp only [e1, e2, e3]
    cases isLabel a0.1 <;> cases inR a0.2.2.1 0 2147483646 <;> simp
  have e1 : (a0.2.1 == 1) = false := by simp [h1]
  have e2 : (a0.2.1 == 2) = false := by simp [h2]
  simp only [e1, e2]
  cases a0.2.1 == 3 <;> cases isLabel a0.1 <;> cases inR a0.2.2.1 0 2147483646 <;> simp
def OP_spec_IsEntry (f_spec_IsLabel : ByteArray → Bool) (g_spec_IsLabel : ByteArray → Bool) (f_spec_l1In : Int → Int → Int → Bool) (f_spec_IsPath : (List ByteArray) → Bool) (g_spec_IsPath : (List ByteArray) → Bool) : Orac := (orcX 122 [.val (.slice 9 .str)] (fun d => g_spec_IsPath d.1) (fun d => [⟨.bool, f_spec_IsPath d.1⟩]) (orcX 65 [.val (.int .i64), .val (.int .i64), .val (.int .i64)] (fun d => true) (fun d => [⟨.bool, f_spec_l1In d.1 d.2.1 d.2.2.1⟩]) (orcX 121 [.val .str] (fun d => g_spec_IsLabel d.1) (fun d => [⟨.bool, f_spec_IsLabel d.1⟩]) nilO)))
def O_spec_IsEntry : Orac := OP_spec_IsEntry N.spec_IsLabel G.spec_IsLabel N.spec_l1In N.spec_IsPath G.spec_IsPath
def spec_IsEntry_P {ρ : Type} (f_spec_IsLabel : ByteArray → Bool) (g_spec_IsLabel : ByteArray → Bool) (f_spec_l1In : Int → Int → Int → Bool) (f_spec_IsPath : (List ByteArray) → Bool) (g_spec_IsPath : (List ByteArray) → Bool) (k : Bool → Option ρ) (a0 : TEntry) : Option ρ := (cond (a0.2.1 == (1 : Int)) (cond (g_spec_IsLabel a0.1) (cond (f_spec_IsLabel a0.1) (cond (f_spec_l1In a0.2.2.1 (0 : Int) (999999 : Int)) (k ((List.length a0.2.2.2 : Int) == (0 : Int))) (k false)) (k false)) none) (cond (a0.2.1 == (2 : Int)) (cond (g_spec_IsLabel a0.1) (cond (f_spec_IsLabel a0.1) (cond (f_spec_l1In a0.2.2.1 (0 : Int) (2147483646 : Int)) (k ((List.length a0.2.2.2 : Int) == (0 : Int))) (k false)) (k false)) none) (cond (a0.2.1 == (3 : Int)) (cond (g_spec_IsLabel a0.1) (cond (f_spec_IsLabel a0.1) (cond (f_spec_l1In a0.2.2.1 (0 : Int) (2147483646 : Int)) (cond (g_spec_IsPath a0.2.2.2) (k (f_spec_IsPath a0.2.2.2)) none) (k false)) (k false)) none) (k false))))
theorem ok_spec_IsEntry : OracOk Try.prog sigs O_spec_IsEntry := (orcX_ok rfl rfl (fun d g => said_spec_IsPath d.1 g) (orcX_ok rfl rfl (fun d g => said_spec_l1In d.1 d.2.1 d.2.2.1) (orcX_ok rfl rfl (fun d g => said_spec_IsLabel d.1 g) nilO_ok)))
def A_spec_IsEntry : Ann := fun b => ⟨[], []⟩
theorem aP_spec_IsEntry (f_spec_IsLabel : ByteArray → Bool) (g_spec_IsLabel : ByteArray → Bool) (f_spec_l1In : Int → Int → Int → Bool) (f_spec_IsPath : (List ByteArray) → Bool) (g_spec_IsPath : (List ByteArray) → Bool) (n : Nat) (a0 : TEntry) : absF tab sigs (OP_spec_IsEntry f_spec_IsLabel g_spec_IsLabel f_spec_l1In f_spec_IsPath g_spec_IsPath) A_spec_IsEntry Try.f99 [(.bool, .no)] n [.val TyEntry a0] = spec_IsEntry_P f_spec_IsLabel g_spec_IsLabel f_spec_l1In f_spec_IsPath g_spec_IsPath (fun r0 => some [⟨.bool, r0⟩])  a0 := by kernel_rfl
theorem a_spec_IsEntry (n : Nat) (a0 : TEntry) : absF tab sigs O_spec_IsEntry A_spec_IsEntry Try.f99 [(.bool, .no)] n [.val TyEntry a0] = spec_IsEntry (fun r0 => some [⟨.bool, r0⟩])  a0 := aP_spec_IsEntry N.spec_IsLabel G.spec_IsLabel N.spec_l1In N.spec_IsPath G.spec_IsPath n a0
theorem said_spec_IsEntry (a0 : TEntry) (g : G.spec_IsEntry a0 = true) : Said Try.prog sigs_99 99 [.val TyEntry a0] [⟨.bool, N.spec_IsEntry a0⟩] := said_len (T := tab) (A := A_spec_IsEntry) tabOk ok_spec_IsEntry tabOk.follows Try.func99 (by kernel_rfl) (by kernel_rfl) (fun hl => ⟨0, (a_spec_IsEntry 0 a0).trans (spec_IsEntry_ok (ρ := Ret) (fun r0 => some [⟨.bool, r0⟩]) a0 hl.1 g)⟩)
/-! spec.CompareLabels -/
abbrev N.spec_CompareLabels (a b : ByteArray) : Int := cmpStr a b
def spec_CompareLabels {ρ : Type} (k : Int → Option ρ) (a0 : ByteArray) (a1 : ByteArray) : Option ρ := (cond (Op.bytesLess (ByteArray.toList a0) (ByteArray.toList a1)) (k (-1 : Int)) (cond (!(Op.bytesLess (ByteArray.toList a0) (ByteArray.toList a1) || ((ByteArray.toList a0) == (ByteArray.toList a1)))) (k (1 : Int)) (k (0 : Int))))
theorem spec_CompareLabels_ok {ρ : Type} (k : Int → Option ρ) (a0 : ByteArray) (a1 : ByteArray) : spec_CompareLabels k  a0 a1 = k (N.spec_CompareLabels a0 a1) := by
  simp only [spec_CompareLabels, cmpStr]
  cases Op.bytesLess a0.toList a1.toList <;> cases a0.toList == a1.toList <;> rfl
def O_spec_CompareLabels : Orac := nilO
theorem ok_spec_CompareLabels : OracOk Try.prog sigs O_spec_CompareLabels := nilO_ok
def A_spec_CompareLabels : Ann := fun b => ⟨[], []⟩
theorem a_spec_CompareLabels (n : Nat) (a0 : ByteArray) (a1 : ByteArray) : absF tab sigs O_spec_CompareLabels A_spec_CompareLabels Try.f100 [((.int .i64), .no)] n [.val .str a0, .val .str a1] = spec_CompareLabels (fun r0 => some [⟨(.int .i64), r0⟩])  a0 a1 := by kernel_rfl
theorem said_spec_CompareLabels (a0 : ByteArray) (a1 : ByteArray) : Said Try.prog sigs_100 100 [.val .str a0, .val .str a1] [⟨(.int .i64), N.spec_CompareLabels a0 a1⟩] := said_len (T := tab) (A := A_spec_CompareLabels) tabOk ok_spec_CompareLabels tabOk.follows Try.func100 (by kernel_rfl) (by kernel_rfl) (fun hl => ⟨0, (a_spec_CompareLabels 0 a0 a1).trans (spec_CompareLabels_ok (ρ := Ret) (fun r0 => some [⟨(.int .i64), r0⟩]) a0 a1)⟩)
/-! spec.AreEntries -/
abbrev G.spec_AreEntries (l : List TEntry) : Bool := decide (wEs l ≤ 1048576)
abbrev N.spec_AreEntries (l : List TEntry) : Bool := areEntries l
def spec_AreEntries_L0 {ρ : Type} (k : Bool → Option ρ) (L0 : (List TEntry) → Int → Option ρ) (v0_0 : (List TEntry)) (v0_1 : Int) : Option ρ := (cond (decide (v0_1 < (List.length v0_0 : Int))) (cond (inRange v0_1 (List.length v0_0)) (cond (G.spec_IsEntry (List.getD v0_0 (Int.toNat v0_1) (ByteArray.empty, ((0 : Int), ((0 : Int), []))))) (cond (!(N.spec_IsEntry (List.getD v0_0 (Int.toNat v0_1) (ByteArray.empty, ((0 : Int), ((0 : Int), [])))))) (k false) (cond (decide (v0_1 > (0 : Int))) (cond (inRange (IntKind.wrap .i64 (v0_1 - (1 : Int))) (List.length v0_0)) (cond (inRange v0_1 (List.length v0_0)) (cond ((N.spec_CompareLabels (List.getD v0_0 (Int.toNat (IntKind.wrap .i64 (v0_1 - (1 : Int)))) (ByteArray.empty, ((0 : Int), ((0 : Int), [])))).1 (List.getD v0_0 (Int.toNat v0_1) (ByteArray.empty, ((0 : Int), ((0 : Int), [])))).1) != (-1 : Int)) (k false) (L0 v0_0 (IntKind.wrap .i64 (v0_1 + (1 : Int))))) none) none) (L0 v0_0 (IntKind.wrap .i64 (v0_1 + (1 : Int)))))) none) none) (k (decide ((List.length v0_0 : Int) ≤ (12 : Int)))))
def spec_AreEntries {ρ : Type} (k : Bool → Option ρ) (L0 : (List TEntry) → Int → Option ρ) (a0 : (List TEntry)) : Option ρ := (L0 a0 (0 : Int))
theorem spec_AreEntries_ok {ρ : Type} (k : Bool → Option ρ) (a0 : (List TEntry)) (l_a0 : lnL (fun y => (True ∧ (True ∧ (True ∧ lnL (fun _ => True) y.2.2.2)))) a0) (g : G.spec_AreEntries a0 = true) : ∃ n0, ∀ n, n0 ≤ n → ∀ (L0 : Nat → (List TEntry) → Int → Option ρ) (h0 : ∀ ( m : Nat) (v0_0 : (List TEntry)) (v0_1 : Int), L0 (m + 1) v0_0 v0_1 = spec_AreEntries_L0 k (L0 m) v0_0 v0_1), spec_AreEntries k (L0 n) a0 = k (N.spec_AreEntries a0) := by
  unfold G.spec_AreEntries at g
  have hw : wEs a0 ≤ 1048576 := of_decide_eq_true g
  have hl : a0.length ≤ 1048576 := by unfold wEs at hw; omega
  refine ⟨a0.length + 1, fun n hn L0 h0 => ?_⟩
  have hrun := raw_run0 (σ := Unit) (s := ()) (L := fun m i _ => L0 m a0 i) (R := fun i _ c => spec_AreEntries_L0 k (fun _ i => c i ()) a0 i) (fun m i s => h0 m a0 i) a0.length (fun _ _ => True) (fun j _ => cond (areFrom a0 (a0.length - j) j) (k (decide (a0.length ≤ 12))) (k false)) (fun j s c hj _ hc => ?_) (fun s c _ => ?_) hn trivial
  · refine hrun.trans ?_
    show _ = k (areFrom a0 a0.length 0 && decide (a0.length ≤ 12))
    rw [Nat.sub_zero]
    cases areFrom a0 a0.length 0 <;> rfl
  · obtain ⟨m, hm⟩ : ∃ m, a0.length - j = m + 1 := ⟨a0.length - j - 1, by omega⟩
    have hm2 : a0.length - (j + 1) = m := by omega
    have hc' := hc () trivial
    rw [hm2] at hc'
    have hmem := wEs_mem (getD_mem (d := (ByteArray.empty, (0, (0, [])))) hj)
    have g2 : decide (wE (a0.getD j (ByteArray.empty, (0, (0, [])))) ≤ 1048576) = true := by simp only [decide_eq_true_eq]; omega
    rw [hm]
    unfold areFrom
    by_cases h0j : j = 0
    · subst h0j
      simp only [spec_AreEntries_L0, lt_nat, inRange_nat, decide_eq_true hj, cond_true, Int.toNat_natCast, G.spec_IsEntry, N.spec_IsEntry, g2, wrap_succ (j := 0) (by unfold big; omega), hc']
      cases isEntry (a0.getD 0 (ByteArray.empty, (0, (0, [])))) <;> simp
    · have e1 : decide ((j : Int) > 0) = true := by simp; omega
      have e2 : IntKind.wrap .i64 ((j : Int) - 1) = ((j - 1 : Nat) : Int) := by rw [wrap_id (by omega) (by omega)]; omega
      have e3 : j - 1 < a0.length := by omega
      simp only [spec_AreEntries_L0, lt_nat, inRange_nat, decide_eq_true hj, cond_true, Int.toNat_natCast, G.spec_IsEntry, N.spec_IsEntry, N.spec_CompareLabels, g2, e1, e2, decide_eq_true e3, wrap_succ (j := j) (by unfold big; omega), hc', decide_eq_false h0j, bne]
      cases isEntry (a0.getD j (ByteArray.empty, (0, (0, [])))) <;> cases cmpStr (a0.getD (j - 1) (ByteArray.empty, (0, (0, [])))).1 (a0.getD j (ByteArray.empty, (0, (0, [])))).1 == -1 <;> simp
  · have e1 : decide ((a0.length : Int) ≤ 12) = decide (a0.length ≤ 12) := by simp only [decide_eq_decide]; omega
    rw [Nat.sub_self]
    simp [spec_AreEntries_L0, areFrom, e1]
def OP_spec_AreEntries (f_spec_IsEntry : TEntry → Bool) (g_spec_IsEntry : TEntry → Bool) (f_spec_CompareLabels : ByteArray → ByteArray → Int) : Orac := (orcX 100 [.val .str, .val .str] (fun d => true) (fun d => [⟨(.int .i64), f_spec_CompareLabels d.1 d.2.1⟩]) (orcX 99 [.val TyEntry] (fun d => g_spec_IsEntry d.1) (fun d => [⟨.bool, f_spec_IsEntry d.1⟩]) nilO))
def O_spec_AreEntries : Orac := OP_spec_AreEntries N.spec_IsEntry G.spec_IsEntry N.spec_CompareLabels
def spec_AreEntries_P_L0 {ρ : Type} (f_spec_IsEntry : TEntry → Bool) (g_spec_IsEntry : TEntry → Bool) (f_spec_CompareLabels : ByteArray → ByteArray → Int) (k : Bool → Option ρ) (L0 : (List TEntry) → Int → Option ρ) (v0_0 : (List TEntry)) (v0_1 : Int) : Option ρ := (cond (decide (v0_1 < (List.length v0_0 : Int))) (cond (inRange v0_1 (List.length v0_0)) (cond (g_spec_IsEntry (List.getD v0_0 (Int.toNat v0_1) (ByteArray.empty, ((0 : Int), ((0 : Int), []))))) (cond (!(f_spec_IsEntry (List.getD v0_0 (Int.toNat v0_1) (ByteArray.empty, ((0 : Int), ((0 : Int), [])))))) (k false) (cond (decide (v0_1 > (0 : Int))) (cond (inRange (IntKind.wrap .i64 (v0_1 - (1 : Int))) (List.length v0_0)) (cond (inRange v0_1 (List.length v0_0)) (cond ((f_spec_CompareLabels (List.getD v0_0 (Int.toNat (IntKind.wrap .i64 (v0_1 - (1 : Int)))) (ByteArray.empty, ((0 : Int), ((0 : Int), [])))).1 (List.getD v0_0 (Int.toNat v0_1) (ByteArray.empty, ((0 : Int), ((0 : Int), [])))).1) != (-1 : Int)) (k false) (L0 v0_0 (IntKind.wrap .i64 (v0_1 + (1 : Int))))) none) none) (L0 v0_0 (IntKind.wrap .i64 (v0_1 + (1 : Int)))))) none) none) (k (decide ((List.length v0_0 : Int) ≤ (12 : Int)))))
def spec_AreEntries_P {ρ : Type} (f_spec_IsEntry : TEntry → Bool) (g_spec_IsEntry : TEntry → Bool) (f_spec_CompareLabels : ByteArray → ByteArray → Int) (k : Bool → Option ρ) (L0 : (List TEntry) → Int → Option ρ) (a0 : (List TEntry)) : Option ρ := (L0 a0 (0 : Int))
theorem ok_spec_AreEntries : OracOk Try.prog sigs O_spec_AreEntries := (orcX_ok rfl rfl (fun d g => said_spec_CompareLabels d.1 d.2.1) (orcX_ok rfl rfl (fun d g => said_spec_IsEntry d.1 g) nilO_ok))
def A_spec_AreEntries : Ann := fun b => cond (Nat.beq b 0) ⟨[(0, false), (3, false)], []⟩ (⟨[], []⟩)
def S_spec_AreEntries_0 (v0_0 : (List TEntry)) (v0_1 : Int) : St := [(kT 0, some (.tv (.v (.slice 89 TyEntry) v0_0 .no))), (kT 3, some (.tv (.v (.int .i64) v0_1 .no)))]
noncomputable def L_P_spec_AreEntries_0 (f_spec_IsEntry : TEntry → Bool) (g_spec_IsEntry : TEntry → Bool) (f_spec_CompareLabels : ByteArray → ByteArray → Int) (n m : Nat) : St → Option Ret := loopOf tab sigs (OP_spec_AreEntries f_spec_IsEntry g_spec_IsEntry f_spec_CompareLabels) A_spec_AreEntries Try.f64 [(.bool, .no)] n (fun _ => 0) 0 m
noncomputable def L_spec_AreEntries_0 (n m : Nat) : St → Option Ret := L_P_spec_AreEntries_0 N.spec_IsEntry G.spec_IsEntry N.spec_CompareLabels n m
theorem bP_spec_AreEntries_0 (f_spec_IsEntry : TEntry → Bool) (g_spec_IsEntry : TEntry → Bool) (f_spec_CompareLabels : ByteArray → ByteArray → Int) (n m : Nat) (v0_0 : (List TEntry)) (v0_1 : Int) : L_P_spec_AreEntries_0 f_spec_IsEntry g_spec_IsEntry f_spec_CompareLabels n (m + 1) (S_spec_AreEntries_0 v0_0 v0_1) = spec_AreEntries_P_L0 f_spec_IsEntry g_spec_IsEntry f_spec_CompareLabels (fun r0 => some [⟨.bool, r0⟩]) (fun v0_0 v0_1 => L_P_spec_AreEntries_0 f_spec_IsEntry g_spec_IsEntry f_spec_CompareLabels n m (S_spec_AreEntries_0 v0_0 v0_1)) v0_0 v0_1 := by kernel_rfl
theorem b_spec_AreEntries_0 (n m : Nat) (v0_0 : (List TEntry)) (v0_1 : Int) : L_spec_AreEntries_0 n (m + 1) (S_spec_AreEntries_0 v0_0 v0_1) = spec_AreEntries_L0 (fun r0 => some [⟨.bool, r0⟩]) (fun v0_0 v0_1 => L_spec_AreEntries_0 n m (S_spec_AreEntries_0 v0_0 v0_1)) v0_0 v0_1 := bP_spec_AreEntries_0 N.spec_IsEntry G.spec_IsEntry N.spec_CompareLabels n m v0_0 v0_1
theorem aP_spec_AreEntries (f_spec_IsEntry : TEntry → Bool) (g_spec_IsEntry : TEntry → Bool) (f_spec_CompareLabels : ByteArray → ByteArray → Int) (n : Nat) (a0 : (List TEntry)) : absF tab sigs (OP_spec_AreEntries f_spec_IsEntry g_spec_IsEntry f_spec_CompareLabels) A_spec_AreEntries Try.f64 [(.bool, .no)] n [.val (.slice 89 TyEntry) a0] = spec_AreEntries_P f_spec_IsEntry g_spec_IsEntry f_spec_CompareLabels (fun r0 => some [⟨.bool, r0⟩]) (fun v0_0 v0_1 => L_P_spec_AreEntries_0 f_spec_IsEntry g_spec_IsEntry f_spec_CompareLabels n n (S_spec_AreEntries_0 v0_0 v0_1)) a0 := by kernel_rfl
theorem a_spec_AreEntries (n : Nat) (a0 : (List TEntry)) : absF tab sigs O_spec_AreEntries A_spec_AreEntries Try.f64 [(.bool, .no)] n [.val (.slice 89 TyEntry) a0] = spec_AreEntries (fun r0 => some [⟨.bool, r0⟩]) (fun v0_0 v0_1 => L_spec_AreEntries_0 n n (S_spec_AreEntries_0 v0_0 v0_1)) a0 := aP_spec_AreEntries N.spec_IsEntry G.spec_IsEntry N.spec_CompareLabels n a0
theorem said_spec_AreEntries (a0 : (List TEntry)) (g : G.spec_AreEntries a0 = true) : Said Try.prog sigs_64 64 [.val (.slice 89 TyEntry) a0] [⟨.bool, N.spec_AreEntries a0⟩] := said_len (T := tab) (A := A_spec_AreEntries) tabOk ok_spec_AreEntries tabOk.follows Try.func64 (by kernel_rfl) (by kernel_rfl) (fun hl => let ⟨n, hn⟩ := spec_AreEntries_ok (ρ := Ret) (fun r0 => some [⟨.bool, r0⟩]) a0 hl.1 g; ⟨n, (a_spec_AreEntries n a0).trans (hn n (Nat.le_refl n) (fun  m v0_0 v0_1 => L_spec_AreEntries_0 n  m (S_spec_AreEntries_0 v0_0 v0_1)) (fun  m v0_0 v0_1 => b_spec_AreEntries_0 n  m v0_0 v0_1))⟩)
/-! spec.KeysInts -/
abbrev G.spec_KeysInts (k : TKeys) : Bool := decide (wK k ≤ 1048576)
abbrev N.spec_KeysInts (k : TKeys) : List Int := keysInts k
def spec_KeysInts {ρ : Type} (k : (List Int) → Option ρ) (a0 : TKeys) : Option ρ := (cond (fit (List.length [a0.2, (List.length a0.1 : Int)]) (List.length a0.1)) (k (List.append [a0.2, (List.length a0.1 : Int)] a0.1)) none)
theorem spec_KeysInts_ok {ρ : Type} (k : (List Int) → Option ρ) (a0 : TKeys) (l_a0 : (lnL (fun _ => True) a0.1 ∧ True)) (g : G.spec_KeysInts a0 = true) : spec_KeysInts k  a0 = k (N.spec_KeysInts a0) := by
  unfold G.spec_KeysInts at g
  have h : wK a0 ≤ 1048576 := of_decide_eq_true g
  have h1 : fit (List.length [a0.2, (List.length a0.1 : Int)]) (List.length a0.1) = true := fit_of (by
    unfold wK at h
    simp
    omega)
  show cond _ _ none = _
  rw [h1]
  rfl
def O_spec_KeysInts : Orac := nilO
theorem ok_spec_KeysInts : OracOk Try.prog sigs O_spec_KeysInts := nilO_ok
def A_spec_KeysInts : Ann := fun b => ⟨[], []⟩
theorem a_spec_KeysInts (n : Nat) (a0 : TKeys) : absF tab sigs O_spec_KeysInts A_spec_KeysInts Try.f83 [((.slice 3 (.int .i64)), (.own 0))] n [.val (.pair (.slice 3 (.int .i64)) (.int .i64)) a0] = spec_KeysInts (fun r0 => some [⟨(.slice 3 (.int .i64)), r0⟩])  a0 := by kernel_rfl
theorem said_spec_KeysInts (a0 : TKeys) (g : G.spec_KeysInts a0 = true) : Said Try.prog sigs_83 83 [.val (.pair (.slice 3 (.int .i64)) (.int .i64)) a0] [⟨(.slice 3 (.int .i64)), N.spec_KeysInts a0⟩] := said_len (T := tab) (A := A_spec_KeysInts) tabOk ok_spec_KeysInts tabOk.follows Try.func83 (by kernel_rfl) (by kernel_rfl) (fun hl => ⟨0, (a_spec_KeysInts 0 a0).trans (spec_KeysInts_ok (ρ := Ret) (fun r0 => some [⟨(.slice 3 (.int .i64)), r0⟩]) a0 hl.1 g)⟩)
/-! spec.Mod -/
abbrev N.spec_Mod (n m : Int) : Int := modM n m
def spec_Mod {ρ : Type} (k : Int → Option ρ) (a0 : Int) (a1 : Int) : Option ρ := (cond (!(N.spec_l1In a1 (1 : Int) (1000000000000 : Int))) (k (0 : Int)) (cond (!(decide (a1 = 0))) (cond (!(decide (a1 = 0))) (k (Int.tmod (IntKind.wrap .i64 ((Int.tmod a0 a1) + a1)) a1)) none) none))
theorem spec_Mod_ok {ρ : Type} (k : Int → Option ρ) (a0 : Int) (a1 : Int) : spec_Mod k  a0 a1 = k (N.spec_Mod a0 a1) := by
  simp only [spec_Mod, N.spec_l1In, modM]
  cases h : inR a1 1 1000000000000
  · rfl
  · have h1 : 1 ≤ a1 := by
      unfold inR at h
      simp only [Bool.and_eq_true, decide_eq_true_eq] at h
      exact h.1
    have h2 : decide (a1 = 0) = false := by simp; omega
    simp [h2]
def OP_spec_Mod (f_spec_l1In : Int → Int → Int → Bool) : Orac := (orcX 65 [.val (.int .i64), .val (.int .i64), .val (.int .i64)] (fun d => true) (fun d => [⟨.bool, f_spec_l1In d.1 d.2.1 d.2.2.1⟩]) nilO)
def O_spec_Mod : Orac := OP_spec_Mod N.spec_l1In
def spec_Mod_P {ρ : Type} (f_spec_l1In : Int → Int → Int → Bool) (k : Int → Option ρ) (a0 : Int) (a1 : Int) : Option ρ := (cond (!(f_spec_l1In a1 (1 : Int) (1000000000000 : Int))) (k (0 : Int)) (cond (!(decide (a1 = 0))) (cond (!(decide (a1 = 0))) (k (Int.tmod (IntKind.wrap .i64 ((Int.tmod a0 a1) + a1)) a1)) none) none))
theorem ok_spec_Mod : OracOk Try.prog sigs O_spec_Mod := (orcX_ok rfl rfl (fun d g => said_spec_l1In d.1 d.2.1 d.2.2.1) nilO_ok)
def A_spec_Mod : Ann := fun b => ⟨[], []⟩
theorem aP_spec_Mod (f_spec_l1In : Int → Int → Int → Bool) (n : Nat) (a0 : Int) (a1 : Int) : absF tab sigs (OP_spec_Mod f_spec_l1In) A_spec_Mod Try.f113 [((.int .i64), .no)] n [.val (.int .i64) a0, .val (.int .i64) a1] = spec_Mod_P f_spec_l1In (fun r0 => some [⟨(.int .i64), r0⟩])  a0 a1 := by kernel_rfl
theorem a_spec_Mod (n : Nat) (a0 : Int) (a1 : Int) : absF tab sigs O_spec_Mod A_spec_Mod Try.f113 [((.int .i64), .no)] n [.val (.int .i64) a0, .val (.int .i64) a1] = spec_Mod (fun r0 => some [⟨(.int .i64), r0⟩])  a0 a1 := aP_spec_Mod N.spec_l1In n a0 a1
theorem said_spec_Mod (a0 : Int) (a1 : Int) : Said Try.prog sigs_113 113 [.val (.int .i64) a0, .val (.int .i64) a1] [⟨(.int .i64), N.spec_Mod a0 a1⟩] := said_len (T := tab) (A := A_spec_Mod) tabOk ok_spec_Mod tabOk.follows Try.func113 (by kernel_rfl) (by kernel_rfl) (fun hl => ⟨0, (a_spec_Mod 0 a0 a1).trans (spec_Mod_ok (ρ := Ret) (fun r0 => some [⟨(.int .i64), r0⟩]) a0 a1)⟩)
/-! spec.Hash -/
abbrev N.spec_Hash (l : List Int) : Int := hash l
def spec_Hash_L0 {ρ : Type} (k : Int → Option ρ) (L0 : (List Int) → Int → Int → Option ρ) (v0_0 : (List Int)) (v0_1 : Int) (v0_2 : Int) : Option ρ := (cond (decide (v0_2 < (List.length v0_0 : Int))) (cond (inRange v0_2 (List.length v0_0)) (L0 v0_0 (Int.tmod (IntKind.wrap .i64 ((IntKind.wrap .i64 ((IntKind.wrap .i64 (v0_1 * (1000003 : Int))) + (N.spec_Mod (List.getD v0_0 (Int.toNat v0_2) (0 : Int)) (2147483647 : Int)))) + (13 : Int))) (2147483647 : Int)) (IntKind.wrap .i64 (v0_2 + (1 : Int)))) none) (k v0_1))
def spec_Hash {ρ : Type} (k : Int → Option ρ) (L0 : (List Int) → Int → Int → Option ρ) (a0 : (List Int)) : Option ρ := (L0 a0 (11 : Int) (0 : Int))
theorem spec_Hash_ok {ρ : Type} (k : Int → Option ρ) (a0 : (List Int)) (l_a0 : lnL (fun _ => True) a0) : ∃ n0, ∀ n, n0 ≤ n → ∀ (L0 : Nat → (List Int) → Int → Int → Option ρ) (h0 : ∀ ( m : Nat) (v0_0 : (List Int)) (v0_1 : Int) (v0_2 : Int), L0 (m + 1) v0_0 v0_1 v0_2 = spec_Hash_L0 k (L0 m) v0_0 v0_1 v0_2), spec_Hash k (L0 n) a0 = k (N.spec_Hash a0) := by
  refine ⟨a0.length + 1, fun n hn L0 h0 => ?_⟩
  refine raw_foldl (a := a0) 0 hashStep (k := k) (L := fun m i s => L0 m a0 s i) (R := fun i s c => spec_Hash_L0 k (fun _ s i => c i s) a0 s i) (fun m i s => h0 m a0 s i) (fun _ _ => True) (fun j s c hj _ => ?_) (fun _ _ _ _ => trivial) (fun s c => ?_) hn trivial
  · have : j < big := by have := l_a0.1; omega
    simp [spec_Hash_L0, lt_nat, inRange_nat, hj, wrap_succ this, hashStep]
  · simp [spec_Hash_L0]
def OP_spec_Hash (f_spec_Mod : Int → Int → Int) : Orac := (orcX 113 [.val (.int .i64), .val (.int .i64)] (fun d => true) (fun d => [⟨(.int .i64), f_spec_Mod d.1 d.2.1⟩]) nilO)
def O_spec_Hash : Orac := OP_spec_Hash N.spec_Mod
def spec_Hash_P_L0 {ρ : Type} (f_spec_Mod : Int → Int → Int) (k : Int → Option ρ) (L0 : (List Int) → Int → Int → Option ρ) (v0_0 : (List Int)) (v0_1 : Int) (v0_2 : Int) : Option ρ := (cond (decide (v0_2 < (List.length v0_0 : Int))) (cond (inRange v0_2 (List.length v0_0)) (L0 v0_0 (Int.tmod (IntKind.wrap .i64 ((IntKind.wrap .i64 ((IntKind.wrap .i64 (v0_1 * (1000003 : Int))) + (f_spec_Mod (List.getD v0_0 (Int.toNat v0_2) (0 : Int)) (2147483647 : Int)))) + (13 : Int))) (2147483647 : Int)) (IntKind.wrap .i64 (v0_2 + (1 : Int)))) none) (k v0_1))
def spec_Hash_P {ρ : Type} (f_spec_Mod : Int → Int → Int) (k : Int → Option ρ) (L0 : (List Int) → Int → Int → Option ρ) (a0 : (List Int)) : Option ρ := (L0 a0 (11 : Int) (0 : Int))
theorem ok_spec_Hash : OracOk Try.prog sigs O_spec_Hash := (orcX_ok rfl rfl (fun d g => said_spec_Mod d.1 d.2.1) nilO_ok)
def A_spec_Hash : Ann := fun b => cond (Nat.beq b 0) ⟨[(0, false), (3, false), (4, false)], []⟩ (⟨[], []⟩)
def S_spec_Hash_0 (v0_0 : (List Int)) (v0_1 : Int) (v0_2 : Int) : St := [(kT 0, some (.tv (.v (.slice 3 (.int .i64)) v0_0 .no))), (kT 3, some (.tv (.v (.int .i64) v0_1 .no))), (kT 4, some (.tv (.v (.int .i64) v0_2 .no)))]
noncomputable def L_P_spec_Hash_0 (f_spec_Mod : Int → Int → Int) (n m : Nat) : St → Option Ret := loopOf tab sigs (OP_spec_Hash f_spec_Mod) A_spec_Hash Try.f79 [((.int .i64), .no)] n (fun _ => 0) 0 m
noncomputable def L_spec_Hash_0 (n m : Nat) : St → Option Ret := L_P_spec_Hash_0 N.spec_Mod n m
theorem bP_spec_Hash_0 (f_spec_Mod : Int → Int → Int) (n m : Nat) (v0_0 : (List Int)) (v0_1 : Int) (v0_2 : Int) : L_P_spec_Hash_0 f_spec_Mod n (m + 1) (S_spec_Hash_0 v0_0 v0_1 v0_2) = spec_Hash_P_L0 f_spec_Mod (fun r0 => some [⟨(.int .i64), r0⟩]) (fun v0_0 v0_1 v0_2 => L_P_spec_Hash_0 f_spec_Mod n m (S_spec_Hash_0 v0_0 v0_1 v0_2)) v0_0 v0_1 v0_2 := by kernel_rfl
theorem b_spec_Hash_0 (n m : Nat) (v0_0 : (List Int)) (v0_1 : Int) (v0_2 : Int) : L_spec_Hash_0 n (m + 1) (S_spec_Hash_0 v0_0 v0_1 v0_2) = spec_Hash_L0 (fun r0 => some [⟨(.int .i64), r0⟩]) (fun v0_0 v0_1 v0_2 => L_spec_Hash_0 n m (S_spec_Hash_0 v0_0 v0_1 v0_2)) v0_0 v0_1 v0_2 := bP_spec_Hash_0 N.spec_Mod n m v0_0 v0_1 v0_2
theorem aP_spec_Hash (f_spec_Mod : Int → Int → Int) (n : Nat) (a0 : (List Int)) : absF tab sigs (OP_spec_Hash f_spec_Mod) A_spec_Hash Try.f79 [((.int .i64), .no)] n [.val (.slice 3 (.int .i64)) a0] = spec_Hash_P f_spec_Mod (fun r0 => some [⟨(.int .i64), r0⟩]) (fun v0_0 v0_1 v0_2 => L_P_spec_Hash_0 f_spec_Mod n n (S_spec_Hash_0 v0_0 v0_1 v0_2)) a0 := by kernel_rfl
theorem a_spec_Hash (n : Nat) (a0 : (List Int)) : absF tab sigs O_spec_Hash A_spec_Hash Try.f79 [((.int .i64), .no)] n [.val (.slice 3 (.int .i64)) a0] = spec_Hash (fun r0 => some [⟨(.int .i64), r0⟩]) (fun v0_0 v0_1 v0_2 => L_spec_Hash_0 n n (S_spec_Hash_0 v0_0 v0_1 v0_2)) a0 := aP_spec_Hash N.spec_Mod n a0
theorem said_spec_Hash (a0 : (List Int)) : Said Try.prog sigs_79 79 [.val (.slice 3 (.int .i64)) a0] [⟨(.int .i64), N.spec_Hash a0⟩] := said_len (T := tab) (A := A_spec_Hash) tabOk ok_spec_Hash tabOk.follows Try.func79 (by kernel_rfl) (by kernel_rfl) (fun hl => let ⟨n, hn⟩ := spec_Hash_ok (ρ := Ret) (fun r0 => some [⟨(.int .i64), r0⟩]) a0 hl.1; ⟨n, (a_spec_Hash n a0).trans (hn n (Nat.le_refl n) (fun  m v0_0 v0_1 v0_2 => L_spec_Hash_0 n  m (S_spec_Hash_0 v0_0 v0_1 v0_2)) (fun  m v0_0 v0_1 v0_2 => b_spec_Hash_0 n  m v0_0 v0_1 v0_2))⟩)
/-! spec.ZoneOf -/
abbrev G.spec_ZoneOf (k : TKeys) (salt : Int) : Bool := decide (wK k ≤ 1048576)
abbrev N.spec_ZoneOf (k : TKeys) (salt : Int) : Int := zoneOf k salt
def spec_ZoneOf {ρ : Type} (k : Int → Option ρ) (a0 : TKeys) (a1 : Int) : Option ρ := (cond (G.spec_KeysInts a0) (cond (fit (List.length [(239 : Int), a1]) (List.length (N.spec_KeysInts a0))) (k (N.spec_Hash (List.append [(239 : Int), a1] (N.spec_KeysInts a0)))) none) none)
theorem spec_ZoneOf_ok {ρ : Type} (k : Int → Option ρ) (a0 : TKeys) (a1 : Int) (l_a0 : (lnL (fun _ => True) a0.1 ∧ True)) (g : G.spec_ZoneOf a0 a1 = true) : spec_ZoneOf k  a0 a1 = k (N.spec_ZoneOf a0 a1) := by
  unfold G.spec_ZoneOf at g
  have h : wK a0 ≤ 1048576 := of_decide_eq_true g
  have h1 : fit (List.length [(239 : Int), a1]) (List.length (keysInts a0)) = true := fit_of (by
    rw [keysInts_len]
    simp
    omega)
  show cond (decide (wK a0 ≤ 1048576)) (cond _ _ none) none = _
  rw [g, h1]
  rfl
def OP_spec_ZoneOf (f_spec_KeysInts : TKeys → (List Int)) (g_spec_KeysInts : TKeys → Bool) (f_spec_Hash : (List Int) → Int) : Orac := (orcX 79 [.val (.slice 3 (.int .i64))] (fun d => true) (fun d => [⟨(.int .i64), f_spec_Hash d.1⟩]) (orcX 83 [.val (.pair (.slice 3 (.int .i64)) (.int .i64))] (fun d => g_spec_KeysInts d.1) (fun d => [⟨(.slice 3 (.int .i64)), f_spec_KeysInts d.1⟩]) nilO))
def O_spec_ZoneOf : Orac := OP_spec_ZoneOf N.spec_KeysInts G.spec_KeysInts N.spec_Hash
def spec_ZoneOf_P {ρ : Type} (f_spec_KeysInts : TKeys → (List Int)) (g_spec_KeysInts : TKeys → Bool) (f_spec_Hash : (List Int) → Int) (k : Int → Option ρ) (a0 : TKeys) (a1 : Int) : Option ρ := (cond (g_spec_KeysInts a0) (cond (fit (List.length [(239 : Int), a1]) (List.length (f_spec_KeysInts a0))) (k (f_spec_Hash (List.append [(239 : Int), a1] (f_spec_KeysInts a0)))) none) none)
theorem ok_spec_ZoneOf : OracOk Try.prog sigs O_spec_ZoneOf := (orcX_ok rfl rfl (fun d g => said_spec_Hash d.1) (orcX_ok rfl rfl (fun d g => said_spec_KeysInts d.1 g) nilO_ok))
def A_spec_ZoneOf : Ann := fun b => ⟨[], []⟩
theorem aP_spec_ZoneOf (f_spec_KeysInts : TKeys → (List Int)) (g_spec_KeysInts : TKeys → Bool) (f_spec_Hash : (List Int) → Int) (n : Nat) (a0 : TKeys) (a1 : Int) : absF tab sigs (OP_spec_ZoneOf f_spec_KeysInts g_spec_KeysInts f_spec_Hash) A_spec_ZoneOf Try.f66 [((.int .i64), .no)] n [.val (.pair (.slice 3 (.int .i64)) (.int .i64)) a0, .val (.int .i64) a1] = spec_ZoneOf_P f_spec_KeysInts g_spec_KeysInts f_spec_Hash (fun r0 => some [⟨(.int .i64), r0⟩])  a0 a1 := by kernel_rfl
theorem a_spec_ZoneOf (n : Nat) (a0 : TKeys) (a1 : Int) : absF tab sigs O_spec_ZoneOf A_spec_ZoneOf Try.f66 [((.int .i64), .no)] n [.val (.pair (.slice 3 (.int .i64)) (.int .i64)) a0, .val (.int .i64) a1] = spec_ZoneOf (fun r0 => some [⟨(.int .i64), r0⟩])  a0 a1 := aP_spec_ZoneOf N.spec_KeysInts G.spec_KeysInts N.spec_Hash n a0 a1
theorem said_spec_ZoneOf (a0 : TKeys) (a1 : Int) (g : G.spec_ZoneOf a0 a1 = true) : Said Try.prog sigs_66 66 [.val (.pair (.slice 3 (.int .i64)) (.int .i64)) a0, .val (.int .i64) a1] [⟨(.int .i64), N.spec_ZoneOf a0 a1⟩] := said_len (T := tab) (A := A_spec_ZoneOf) tabOk ok_spec_ZoneOf tabOk.follows Try.func66 (by kernel_rfl) (by kernel_rfl) (fun hl => ⟨0, (a_spec_ZoneOf 0 a0 a1).trans (spec_ZoneOf_ok (ρ := Ret) (fun r0 => some [⟨(.int .i64), r0⟩]) a0 a1 hl.1 g)⟩)
/-! spec.BytesToInts -/
abbrev G.spec_BytesToInts (b : List Int) : Bool := decide (b.length ≤ 1048577)
abbrev N.spec_BytesToInts (b : List Int) : List Int := bytesInts b
def spec_BytesToInts_L0 {ρ : Type} (k : (List Int) → Option ρ) (L0 : (List Int) → Int → (List Int) → Option ρ) (v0_0 : (List Int)) (v0_1 : Int) (v0_2 : (List Int)) : Option ρ := (cond (decide (v0_1 < (List.length v0_0 : Int))) (cond (inRange v0_1 (List.length v0_0)) (cond (fit (List.length v0_2) (List.length [(IntKind.wrap .i64 (List.getD v0_0 (Int.toNat v0_1) (0 : Int)))])) (L0 v0_0 (IntKind.wrap .i64 (v0_1 + (1 : Int))) (List.append v0_2 [(IntKind.wrap .i64 (List.getD v0_0 (Int.toNat v0_1) (0 : Int)))])) none) none) (k v0_2))
def spec_BytesToInts {ρ : Type} (k : (List Int) → Option ρ) (L0 : (List Int) → Int → (List Int) → Option ρ) (a0 : (List Int)) : Option ρ := (L0 a0 (0 : Int) [(List.length a0 : Int)])
theorem spec_BytesToInts_ok {ρ : Type} (k : (List Int) → Option ρ) (a0 : (List Int)) (l_a0 : lnL (fun _ => True) a0) (g : G.spec_BytesToInts a0 = true) : ∃ n0, ∀ n, n0 ≤ n → ∀ (L0 : Nat → (List Int) → Int → (List Int) → Option ρ) (h0 : ∀ ( m : Nat) (v0_0 : (List Int)) (v0_1 : Int) (v0_2 : (List Int)), L0 (m + 1) v0_0 v0_1 v0_2 = spec_BytesToInts_L0 k (L0 m) v0_0 v0_1 v0_2), spec_BytesToInts k (L0 n) a0 = k (N.spec_BytesToInts a0) := by
  unfold G.spec_BytesToInts at g
  have hlen : a0.length ≤ 1048577 := of_decide_eq_true g
  refine ⟨a0.length + 1, fun n hn L0 h0 => ?_⟩
  refine (raw_foldl (a := a0) 0 (fun o x => o ++ [IntKind.wrap .i64 x]) (k := k) (s := [(a0.length : Int)]) (L := fun m i s => L0 m a0 i s) (R := fun i s c => spec_BytesToInts_L0 k (fun _ i s => c i s) a0 i s) (fun m i s => h0 m a0 i s) (fun j o => o.length ≤ j + 1) (fun j s c hj hI => ?_) (fun j s hj hI => by simp; exact hI) (fun s c => ?_) hn (by simp)).trans (by rw [foldl_app]; rfl)
  · have : j < big := by unfold big; omega
    have e3 : fit s.length 1 = true := fit_of (by omega)
    simp only [spec_BytesToInts_L0, lt_nat, inRange_nat, decide_eq_true hj, cond_true, Int.toNat_natCast, List.length_singleton, e3, wrap_succ this, List.append_eq]
  · simp [spec_BytesToInts_L0]
def O_spec_BytesToInts : Orac := nilO
theorem ok_spec_BytesToInts : OracOk Try.prog sigs O_spec_BytesToInts := nilO_ok
def A_spec_BytesToInts : Ann := fun b => cond (Nat.beq b 0) ⟨[(0, false), (3, true), (4, false)], []⟩ (⟨[], []⟩)
def S_spec_BytesToInts_0 (v0_0 : (List Int)) (v0_1 : Int) (v0_2 : (List Int)) : St := [(kT 0, some (.tv (.v (.slice 5 (.int .u8)) v0_0 .no))), (kT 3, some (.tv (.v (.slice 3 (.int .i64)) [] (.own 24)))), (kT 4, some (.tv (.v (.int .i64) v0_1 .no))), (kR 24, some (.row 3 (.int .i64) v0_2))]
noncomputable def L_spec_BytesToInts_0 (n m : Nat) : St → Option Ret := loopOf tab sigs O_spec_BytesToInts A_spec_BytesToInts Try.f154 [((.slice 3 (.int .i64)), (.own 0))] n (fun _ => 0) 0 m
theorem b_spec_BytesToInts_0 (n m : Nat) (v0_0 : (List Int)) (v0_1 : Int) (v0_2 : (List Int)) : L_spec_BytesToInts_0 n (m + 1) (S_spec_BytesToInts_0 v0_0 v0_1 v0_2) = spec_BytesToInts_L0 (fun r0 => some [⟨(.slice 3 (.int .i64)), r0⟩]) (fun v0_0 v0_1 v0_2 => L_spec_BytesToInts_0 n m (S_spec_BytesToInts_0 v0_0 v0_1 v0_2)) v0_0 v0_1 v0_2 := by kernel_rfl
theorem a_spec_BytesToInts (n : Nat) (a0 : (List Int)) : absF tab sigs O_spec_BytesToInts A_spec_BytesToInts Try.f154 [((.slice 3 (.int .i64)), (.own 0))] n [.val (.slice 5 (.int .u8)) a0] = spec_BytesToInts (fun r0 => some [⟨(.slice 3 (.int .i64)), r0⟩]) (fun v0_0 v0_1 v0_2 => L_spec_BytesToInts_0 n n (S_spec_BytesToInts_0 v0_0 v0_1 v0_2)) a0 := by kernel_rfl
theorem said_spec_BytesToInts (a0 : (List Int)) (g : G.spec_BytesToInts a0 = true) : Said Try.prog sigs_154 154 [.val (.slice 5 (.int .u8)) a0] [⟨(.slice 3 (.int .i64)), N.spec_BytesToInts a0⟩] := said_len (T := tab) (A := A_spec_BytesToInts) tabOk ok_spec_BytesToInts tabOk.follows Try.func154 (by kernel_rfl) (by kernel_rfl) (fun hl => let ⟨n, hn⟩ := spec_BytesToInts_ok (ρ := Ret) (fun r0 => some [⟨(.slice 3 (.int .i64)), r0⟩]) a0 hl.1 g; ⟨n, (a_spec_BytesToInts n a0).trans (hn n (Nat.le_refl n) (fun  m v0_0 v0_1 v0_2 => L_spec_BytesToInts_0 n  m (S_spec_BytesToInts_0 v0_0 v0_1 v0_2)) (fun  m v0_0 v0_1 v0_2 => b_spec_BytesToInts_0 n  m v0_0 v0_1 v0_2))⟩)
end Go.Proofs.Ythcenfbfgjcikaa.Ref
