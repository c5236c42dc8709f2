/- Functions of the program: what each computes, and that it does so.
   Conditions: as each theorem states. -/
import Derived.Test.YthegggkfngnehaaSA
set_option linter.unusedVariables false
set_option linter.unusedSimpArgs false
set_option maxRecDepth 100000
namespace Go.Proofs.Ythegggkfngnehaa.Ref
open Go.RowKit Go.Proofs.YthegggkfngnehaaW.PrintWords Go.Proofs.YthegggkfngnehaaW.PrintLast
/-! laws.szStringS -/
abbrev G.laws_szStringS (a : List ByteArray) (left : Int) : Bool := gL left && bP a
abbrev N.laws_szStringS (a : List ByteArray) (left : Int) : Int := sub1 (wP a) left
def laws_szStringS_L0 {ρ : Type} (k : Int → Option ρ) (L0 : (List ByteArray) → Int → Int → Option ρ) (v0_0 : (List ByteArray)) (v0_1 : Int) (v0_2 : Int) : Option ρ := (cond (decide (v0_2 < (List.length v0_0 : Int))) (cond (inRange v0_2 (List.length v0_0)) (cond (decide ((IntKind.wrap .i64 (v0_1 - (ByteArray.size (List.getD v0_0 (Int.toNat v0_2) ByteArray.empty) : Int))) < (0 : Int))) (k (-1 : Int)) (L0 v0_0 (IntKind.wrap .i64 (v0_1 - (ByteArray.size (List.getD v0_0 (Int.toNat v0_2) ByteArray.empty) : Int))) (IntKind.wrap .i64 (v0_2 + (1 : Int))))) none) (k v0_1))
def laws_szStringS {ρ : Type} (k : Int → Option ρ) (L0 : (List ByteArray) → Int → Int → Option ρ) (a0 : (List ByteArray)) (a1 : Int) : Option ρ := (cond (decide ((IntKind.wrap .i64 (a1 - (List.length a0 : Int))) < (0 : Int))) (k (-1 : Int)) (L0 a0 (IntKind.wrap .i64 (a1 - (List.length a0 : Int))) (0 : Int)))
theorem laws_szStringS_ok {ρ : Type} (k : Int → Option ρ) (a0 : (List ByteArray)) (a1 : Int) (l_a0 : lnL (fun _ => True) a0) (g : G.laws_szStringS a0 a1 = true) : ∃ n0, ∀ n, n0 ≤ n → ∀ (L0 : Nat → (List ByteArray) → Int → Int → Option ρ) (h0 : ∀ ( m : Nat) (v0_0 : (List ByteArray)) (v0_1 : Int) (v0_2 : Int), L0 (m + 1) v0_0 v0_1 v0_2 = laws_szStringS_L0 k (L0 m) v0_0 v0_1 v0_2), laws_szStringS k (L0 n) a0 a1 = k (N.laws_szStringS a0 a1) := by
  unfold G.laws_szStringS at g
  replace g := (Bool.and_eq_true _ _).mp g
  refine ⟨a0.length + 1, fun n hn L0 h0 => ?_⟩
  refine sz_first (c := fun l => L0 n a0 l 0) g.1 l_a0.1 (fun g' => ?_)
  have g'' : 0 ≤ sub1 a0.length a1 ∧ sub1 a0.length a1 ≤ 1048576 := by simpa only [gL, Bool.and_eq_true, decide_eq_true_eq] using g'
  refine (loop_l (a := a0) (d := ByteArray.empty) l_a0.1 (L := fun m i s => L0 m a0 s i) (f := fun i x s c => cond (decide (IntKind.wrap .i64 (s - (x.size : Int)) < 0)) (k (-1)) (c (IntKind.wrap .i64 (s - (x.size : Int))))) (e := k) (fun m i s => h0 m a0 s i) hn).trans ?_
  refine foldI_sz (fun x => x.size ≤ 9223372036854775807) (fun i x s c hx hs0 hs1 => ?_) (fun s => rfl) a0 0 _ (fun x hx => by simpa using List.all_eq_true.1 g.2 x hx) g''.1 g''.2
  rw [wrap_sub hs0 hs1 (by omega) (by omega)]
  congr 1
  simp only [decide_eq_decide]
  omega
def O_laws_szStringS : Orac := nilO
theorem ok_laws_szStringS : OracOk Try.prog sigs O_laws_szStringS := nilO_ok
def A_laws_szStringS : Ann := fun b => cond (Nat.beq b 0) ⟨[(0, false), (1, false), (5, false)], []⟩ (⟨[], []⟩)
def S_laws_szStringS_0 (v0_0 : (List ByteArray)) (v0_1 : Int) (v0_2 : Int) : St := [(kT 0, some (.tv (.v (.slice 9 .str) v0_0 .no))), (kT 1, some (.tv (.v (.int .i64) v0_1 .no))), (kT 5, some (.tv (.v (.int .i64) v0_2 .no)))]
noncomputable def L_laws_szStringS_0 (n m : Nat) : St → Option Ret := loopOf tab sigs O_laws_szStringS A_laws_szStringS Try.f39 [((.int .i64), .no)] n (fun _ => 0) 0 m
theorem b_laws_szStringS_0 (n m : Nat) (v0_0 : (List ByteArray)) (v0_1 : Int) (v0_2 : Int) : L_laws_szStringS_0 n (m + 1) (S_laws_szStringS_0 v0_0 v0_1 v0_2) = laws_szStringS_L0 (fun r0 => some [⟨(.int .i64), r0⟩]) (fun v0_0 v0_1 v0_2 => L_laws_szStringS_0 n m (S_laws_szStringS_0 v0_0 v0_1 v0_2)) v0_0 v0_1 v0_2 := by kernel_rfl
theorem a_laws_szStringS (n : Nat) (a0 : (List ByteArray)) (a1 : Int) : absF tab sigs O_laws_szStringS A_laws_szStringS Try.f39 [((.int .i64), .no)] n [.val (.slice 9 .str) a0, .val (.int .i64) a1] = laws_szStringS (fun r0 => some [⟨(.int .i64), r0⟩]) (fun v0_0 v0_1 v0_2 => L_laws_szStringS_0 n n (S_laws_szStringS_0 v0_0 v0_1 v0_2)) a0 a1 := by kernel_rfl
theorem said_laws_szStringS (a0 : (List ByteArray)) (a1 : Int) (g : G.laws_szStringS a0 a1 = true) : Said Try.prog sigs_39 39 [.val (.slice 9 .str) a0, .val (.int .i64) a1] [⟨(.int .i64), N.laws_szStringS a0 a1⟩] := said_len (T := tab) (A := A_laws_szStringS) tabOk ok_laws_szStringS tabOk.follows Try.func39 (by kernel_rfl) (by kernel_rfl) (fun hl => let ⟨n, hn⟩ := laws_szStringS_ok (ρ := Ret) (fun r0 => some [⟨(.int .i64), r0⟩]) a0 a1 hl.1 g; ⟨n, (a_laws_szStringS n a0 a1).trans (hn n (Nat.le_refl n) (fun  m v0_0 v0_1 v0_2 => L_laws_szStringS_0 n  m (S_laws_szStringS_0 v0_0 v0_1 v0_2)) (fun  m v0_0 v0_1 v0_2 => b_laws_szStringS_0 n  m v0_0 v0_1 v0_2))⟩)
/-! laws.szEntry -/
abbrev G.laws_szEntry (a : TEntry) (left : Int) : Bool := gL left && bE a
abbrev N.laws_szEntry (a : TEntry) (left : Int) : Int := sub1 (wE a) left
def laws_szEntry {ρ : Type} (k : Int → Option ρ) (a0 : TEntry) (a1 : Int) : Option ρ := (cond (decide ((IntKind.wrap .i64 (a1 - (ByteArray.size a0.1 : Int))) < (0 : Int))) (k (-1 : Int)) (cond (G.laws_szStringS a0.2.2.2 (IntKind.wrap .i64 (a1 - (ByteArray.size a0.1 : Int)))) (cond (decide ((N.laws_szStringS a0.2.2.2 (IntKind.wrap .i64 (a1 - (ByteArray.size a0.1 : Int)))) < (0 : Int))) (k (-1 : Int)) (k (N.laws_szStringS a0.2.2.2 (IntKind.wrap .i64 (a1 - (ByteArray.size a0.1 : Int)))))) none))
theorem laws_szEntry_ok {ρ : Type} (k : Int → Option ρ) (a0 : TEntry) (a1 : Int) (l_a0 : (True ∧ (True ∧ (True ∧ lnL (fun _ => True) a0.2.2.2)))) (g : G.laws_szEntry a0 a1 = true) : laws_szEntry k  a0 a1 = k (N.laws_szEntry a0 a1) := by
  unfold G.laws_szEntry at g
  replace g := (Bool.and_eq_true _ _).mp g
  have g2 := (Bool.and_eq_true _ _).mp g.2
  refine sz_first (c := fun l => cond (gL l && bP a0.2.2.2) (cond (decide (sub1 (wP a0.2.2.2) l < 0)) (k (-1)) (k (sub1 (wP a0.2.2.2) l))) none) g.1 (of_decide_eq_true g2.1) (fun g1 => ?_)
  rw [g1, g2.2]
  exact sz_last
def OP_laws_szEntry (f_laws_szStringS : (List ByteArray) → Int → Int) (g_laws_szStringS : (List ByteArray) → Int → Bool) : Orac := (orcX 39 [.val (.slice 9 .str), .val (.int .i64)] (fun d => g_laws_szStringS d.1 d.2.1) (fun d => [⟨(.int .i64), f_laws_szStringS d.1 d.2.1⟩]) nilO)
def O_laws_szEntry : Orac := OP_laws_szEntry N.laws_szStringS G.laws_szStringS
def laws_szEntry_P {ρ : Type} (f_laws_szStringS : (List ByteArray) → Int → Int) (g_laws_szStringS : (List ByteArray) → Int → Bool) (k : Int → Option ρ) (a0 : TEntry) (a1 : Int) : Option ρ := (cond (decide ((IntKind.wrap .i64 (a1 - (ByteArray.size a0.1 : Int))) < (0 : Int))) (k (-1 : Int)) (cond (g_laws_szStringS a0.2.2.2 (IntKind.wrap .i64 (a1 - (ByteArray.size a0.1 : Int)))) (cond (decide ((f_laws_szStringS a0.2.2.2 (IntKind.wrap .i64 (a1 - (ByteArray.size a0.1 : Int)))) < (0 : Int))) (k (-1 : Int)) (k (f_laws_szStringS a0.2.2.2 (IntKind.wrap .i64 (a1 - (ByteArray.size a0.1 : Int)))))) none))
theorem ok_laws_szEntry : OracOk Try.prog sigs O_laws_szEntry := (orcX_ok rfl rfl (fun d g => said_laws_szStringS d.1 d.2.1 g) nilO_ok)
def A_laws_szEntry : Ann := fun b => ⟨[], []⟩
theorem aP_laws_szEntry (f_laws_szStringS : (List ByteArray) → Int → Int) (g_laws_szStringS : (List ByteArray) → Int → Bool) (n : Nat) (a0 : TEntry) (a1 : Int) : absF tab sigs (OP_laws_szEntry f_laws_szStringS g_laws_szStringS) A_laws_szEntry Try.f9 [((.int .i64), .no)] n [.val (.pair .str (.pair (.int .i64) (.pair (.int .i64) (.slice 9 .str)))) a0, .val (.int .i64) a1] = laws_szEntry_P f_laws_szStringS g_laws_szStringS (fun r0 => some [⟨(.int .i64), r0⟩])  a0 a1 := by kernel_rfl
theorem a_laws_szEntry (n : Nat) (a0 : TEntry) (a1 : Int) : absF tab sigs O_laws_szEntry A_laws_szEntry Try.f9 [((.int .i64), .no)] n [.val (.pair .str (.pair (.int .i64) (.pair (.int .i64) (.slice 9 .str)))) a0, .val (.int .i64) a1] = laws_szEntry (fun r0 => some [⟨(.int .i64), r0⟩])  a0 a1 := aP_laws_szEntry N.laws_szStringS G.laws_szStringS n a0 a1
theorem said_laws_szEntry (a0 : TEntry) (a1 : Int) (g : G.laws_szEntry a0 a1 = true) : Said Try.prog sigs_9 9 [.val (.pair .str (.pair (.int .i64) (.pair (.int .i64) (.slice 9 .str)))) a0, .val (.int .i64) a1] [⟨(.int .i64), N.laws_szEntry a0 a1⟩] := said_len (T := tab) (A := A_laws_szEntry) tabOk ok_laws_szEntry tabOk.follows Try.func9 (by kernel_rfl) (by kernel_rfl) (fun hl => ⟨0, (a_laws_szEntry 0 a0 a1).trans (laws_szEntry_ok (ρ := Ret) (fun r0 => some [⟨(.int .i64), r0⟩]) a0 a1 hl.1 g)⟩)
/-! laws.szEntryS -/
abbrev G.laws_szEntryS (a : List TEntry) (left : Int) : Bool := gL left && a.all bE
abbrev N.laws_szEntryS (a : List TEntry) (left : Int) : Int := sub1 (wEs a) left
def laws_szEntryS_L0 {ρ : Type} (k : Int → Option ρ) (L0 : (List TEntry) → Int → Int → Option ρ) (v0_0 : (List TEntry)) (v0_1 : Int) (v0_2 : Int) : Option ρ := (cond (decide (v0_2 < (List.length v0_0 : Int))) (cond (inRange v0_2 (List.length v0_0)) (cond (G.laws_szEntry (List.getD v0_0 (Int.toNat v0_2) (ByteArray.empty, ((0 : Int), ((0 : Int), [])))) v0_1) (cond (decide ((N.laws_szEntry (List.getD v0_0 (Int.toNat v0_2) (ByteArray.empty, ((0 : Int), ((0 : Int), [])))) v0_1) < (0 : Int))) (k (-1 : Int)) (L0 v0_0 (N.laws_szEntry (List.getD v0_0 (Int.toNat v0_2) (ByteArray.empty, ((0 : Int), ((0 : Int), [])))) v0_1) (IntKind.wrap .i64 (v0_2 + (1 : Int))))) none) none) (k v0_1))
def laws_szEntryS {ρ : Type} (k : Int → Option ρ) (L0 : (List TEntry) → Int → Int → Option ρ) (a0 : (List TEntry)) (a1 : Int) : Option ρ := (cond (decide ((IntKind.wrap .i64 (a1 - (List.length a0 : Int))) < (0 : Int))) (k (-1 : Int)) (L0 a0 (IntKind.wrap .i64 (a1 - (List.length a0 : Int))) (0 : Int)))
theorem laws_szEntryS_ok {ρ : Type} (k : Int → Option ρ) (a0 : (List TEntry)) (a1 : Int) (l_a0 : lnL (fun y => (True ∧ (True ∧ (True ∧ lnL (fun _ => True) y.2.2.2)))) a0) (g : G.laws_szEntryS a0 a1 = true) : ∃ n0, ∀ n, n0 ≤ n → ∀ (L0 : Nat → (List TEntry) → Int → Int → Option ρ) (h0 : ∀ ( m : Nat) (v0_0 : (List TEntry)) (v0_1 : Int) (v0_2 : Int), L0 (m + 1) v0_0 v0_1 v0_2 = laws_szEntryS_L0 k (L0 m) v0_0 v0_1 v0_2), laws_szEntryS k (L0 n) a0 a1 = k (N.laws_szEntryS a0 a1) := by
  unfold G.laws_szEntryS at g
  replace g := (Bool.and_eq_true _ _).mp g
  refine ⟨a0.length + 1, fun n hn L0 h0 => ?_⟩
  refine sz_first (c := fun l => L0 n a0 l 0) g.1 l_a0.1 (fun g' => ?_)
  have g'' : 0 ≤ sub1 a0.length a1 ∧ sub1 a0.length a1 ≤ 1048576 := by simpa only [gL, Bool.and_eq_true, decide_eq_true_eq] using g'
  refine (loop_l (a := a0) (d := (ByteArray.empty, ((0 : Int), ((0 : Int), [])))) l_a0.1 (L := fun m i s => L0 m a0 s i) (f := fun i x s c => cond (gL s && bE x) (cond (decide (sub1 (wE x) s < 0)) (k (-1)) (c (sub1 (wE x) s))) none) (e := k) (fun m i s => h0 m a0 s i) hn).trans ?_
  refine foldI_sz (fun x => bE x = true) (fun i x s c hx hs0 hs1 => ?_) (fun s => rfl) a0 0 _ (fun x hx => List.all_eq_true.1 g.2 x hx) g''.1 g''.2
  have e1 : gL s = true := by simp [gL, hs0, hs1]
  rw [e1, hx]
  show cond (decide (sub1 (wE x) s < 0)) _ _ = _
  by_cases h : s < (wE x : Int)
  · have h2 := (sub1_neg (w := wE x) hs0).2 h
    simp [h, h2]
  · have h2 : ¬ sub1 (wE x) s < 0 := fun h3 => h ((sub1_neg hs0).1 h3)
    rw [decide_eq_false h2, decide_eq_false h, sub1_pos (w := wE x) (left := s) (by omega)]
def OP_laws_szEntryS (f_laws_szEntry : TEntry → Int → Int) (g_laws_szEntry : TEntry → Int → Bool) : Orac := (orcX 9 [.val (.pair .str (.pair (.int .i64) (.pair (.int .i64) (.slice 9 .str)))), .val (.int .i64)] (fun d => g_laws_szEntry d.1 d.2.1) (fun d => [⟨(.int .i64), f_laws_szEntry d.1 d.2.1⟩]) nilO)
def O_laws_szEntryS : Orac := OP_laws_szEntryS N.laws_szEntry G.laws_szEntry
def laws_szEntryS_P_L0 {ρ : Type} (f_laws_szEntry : TEntry → Int → Int) (g_laws_szEntry : TEntry → Int → Bool) (k : Int → Option ρ) (L0 : (List TEntry) → Int → Int → Option ρ) (v0_0 : (List TEntry)) (v0_1 : Int) (v0_2 : Int) : Option ρ := (cond (decide (v0_2 < (List.length v0_0 : Int))) (cond (inRange v0_2 (List.length v0_0)) (cond (g_laws_szEntry (List.getD v0_0 (Int.toNat v0_2) (ByteArray.empty, ((0 : Int), ((0 : Int), [])))) v0_1) (cond (decide ((f_laws_szEntry (List.getD v0_0 (Int.toNat v0_2) (ByteArray.empty, ((0 : Int), ((0 : Int), [])))) v0_1) < (0 : Int))) (k (-1 : Int)) (L0 v0_0 (f_laws_szEntry (List.getD v0_0 (Int.toNat v0_2) (ByteArray.empty, ((0 : Int), ((0 : Int), [])))) v0_1) (IntKind.wrap .i64 (v0_2 + (1 : Int))))) none) none) (k v0_1))
def laws_szEntryS_P {ρ : Type} (f_laws_szEntry : TEntry → Int → Int) (g_laws_szEntry : TEntry → Int → Bool) (k : Int → Option ρ) (L0 : (List TEntry) → Int → Int → Option ρ) (a0 : (List TEntry)) (a1 : Int) : Option ρ := (cond (decide ((IntKind.wrap .i64 (a1 - (List.length a0 : Int))) < (0 : Int))) (k (-1 : Int)) (L0 a0 (IntKind.wrap .i64 (a1 - (List.length a0 : Int))) (0 : Int)))
theorem ok_laws_szEntryS : OracOk Try.prog sigs O_laws_szEntryS := (orcX_ok rfl rfl (fun d g => said_laws_szEntry d.1 d.2.1 g) nilO_ok)
def A_laws_szEntryS : Ann := fun b => cond (Nat.beq b 0) ⟨[(0, false), (1, false), (5, false)], []⟩ (⟨[], []⟩)
def S_laws_szEntryS_0 (v0_0 : (List TEntry)) (v0_1 : Int) (v0_2 : Int) : St := [(kT 0, some (.tv (.v (.slice 24 (.pair .str (.pair (.int .i64) (.pair (.int .i64) (.slice 9 .str))))) v0_0 .no))), (kT 1, some (.tv (.v (.int .i64) v0_1 .no))), (kT 5, some (.tv (.v (.int .i64) v0_2 .no)))]
noncomputable def L_P_laws_szEntryS_0 (f_laws_szEntry : TEntry → Int → Int) (g_laws_szEntry : TEntry → Int → Bool) (n m : Nat) : St → Option Ret := loopOf tab sigs (OP_laws_szEntryS f_laws_szEntry g_laws_szEntry) A_laws_szEntryS Try.f17 [((.int .i64), .no)] n (fun _ => 0) 0 m
noncomputable def L_laws_szEntryS_0 (n m : Nat) : St → Option Ret := L_P_laws_szEntryS_0 N.laws_szEntry G.laws_szEntry n m
theorem bP_laws_szEntryS_0 (f_laws_szEntry : TEntry → Int → Int) (g_laws_szEntry : TEntry → Int → Bool) (n m : Nat) (v0_0 : (List TEntry)) (v0_1 : Int) (v0_2 : Int) : L_P_laws_szEntryS_0 f_laws_szEntry g_laws_szEntry n (m + 1) (S_laws_szEntryS_0 v0_0 v0_1 v0_2) = laws_szEntryS_P_L0 f_laws_szEntry g_laws_szEntry (fun r0 => some [⟨(.int .i64), r0⟩]) (fun v0_0 v0_1 v0_2 => L_P_laws_szEntryS_0 f_laws_szEntry g_laws_szEntry n m (S_laws_szEntryS_0 v0_0 v0_1 v0_2)) v0_0 v0_1 v0_2 := by kernel_rfl
theorem b_laws_szEntryS_0 (n m : Nat) (v0_0 : (List TEntry)) (v0_1 : Int) (v0_2 : Int) : L_laws_szEntryS_0 n (m + 1) (S_laws_szEntryS_0 v0_0 v0_1 v0_2) = laws_szEntryS_L0 (fun r0 => some [⟨(.int .i64), r0⟩]) (fun v0_0 v0_1 v0_2 => L_laws_szEntryS_0 n m (S_laws_szEntryS_0 v0_0 v0_1 v0_2)) v0_0 v0_1 v0_2 := bP_laws_szEntryS_0 N.laws_szEntry G.laws_szEntry n m v0_0 v0_1 v0_2
theorem aP_laws_szEntryS (f_laws_szEntry : TEntry → Int → Int) (g_laws_szEntry : TEntry → Int → Bool) (n : Nat) (a0 : (List TEntry)) (a1 : Int) : absF tab sigs (OP_laws_szEntryS f_laws_szEntry g_laws_szEntry) A_laws_szEntryS Try.f17 [((.int .i64), .no)] n [.val (.slice 24 (.pair .str (.pair (.int .i64) (.pair (.int .i64) (.slice 9 .str))))) a0, .val (.int .i64) a1] = laws_szEntryS_P f_laws_szEntry g_laws_szEntry (fun r0 => some [⟨(.int .i64), r0⟩]) (fun v0_0 v0_1 v0_2 => L_P_laws_szEntryS_0 f_laws_szEntry g_laws_szEntry n n (S_laws_szEntryS_0 v0_0 v0_1 v0_2)) a0 a1 := by kernel_rfl
theorem a_laws_szEntryS (n : Nat) (a0 : (List TEntry)) (a1 : Int) : absF tab sigs O_laws_szEntryS A_laws_szEntryS Try.f17 [((.int .i64), .no)] n [.val (.slice 24 (.pair .str (.pair (.int .i64) (.pair (.int .i64) (.slice 9 .str))))) a0, .val (.int .i64) a1] = laws_szEntryS (fun r0 => some [⟨(.int .i64), r0⟩]) (fun v0_0 v0_1 v0_2 => L_laws_szEntryS_0 n n (S_laws_szEntryS_0 v0_0 v0_1 v0_2)) a0 a1 := aP_laws_szEntryS N.laws_szEntry G.laws_szEntry n a0 a1
theorem said_laws_szEntryS (a0 : (List TEntry)) (a1 : Int) (g : G.laws_szEntryS a0 a1 = true) : Said Try.prog sigs_17 17 [.val (.slice 24 (.pair .str (.pair (.int .i64) (.pair (.int .i64) (.slice 9 .str))))) a0, .val (.int .i64) a1] [⟨(.int .i64), N.laws_szEntryS a0 a1⟩] := said_len (T := tab) (A := A_laws_szEntryS) tabOk ok_laws_szEntryS tabOk.follows Try.func17 (by kernel_rfl) (by kernel_rfl) (fun hl => let ⟨n, hn⟩ := laws_szEntryS_ok (ρ := Ret) (fun r0 => some [⟨(.int .i64), r0⟩]) a0 a1 hl.1 g; ⟨n, (a_laws_szEntryS n a0 a1).trans (hn n (Nat.le_refl n) (fun  m v0_0 v0_1 v0_2 => L_laws_szEntryS_0 n  m (S_laws_szEntryS_0 v0_0 v0_1 v0_2)) (fun  m v0_0 v0_1 v0_2 => b_laws_szEntryS_0 n  m v0_0 v0_1 v0_2))⟩)
/-! laws.toStringS -/
abbrev G.laws_toStringS (a : List ByteArray) : Bool := decide (a.length ≤ 1048576)
abbrev N.laws_toStringS (a : List ByteArray) : List ByteArray := a
def laws_toStringS_L0 {ρ : Type} (k : (List ByteArray) → Option ρ) (L0 : (List ByteArray) → Int → (List ByteArray) → Option ρ) (v0_0 : (List ByteArray)) (v0_1 : Int) (v0_2 : (List ByteArray)) : Option ρ := (cond (decide (v0_1 < (List.length v0_0 : Int))) (cond (inRange v0_1 (List.length v0_0)) (cond (inRange v0_1 (List.length v0_2)) (cond (inRange v0_1 (List.length v0_2)) (L0 v0_0 (IntKind.wrap .i64 (v0_1 + (1 : Int))) (List.set v0_2 (Int.toNat v0_1) (List.getD v0_0 (Int.toNat v0_1) ByteArray.empty))) none) none) none) (k v0_2))
def laws_toStringS {ρ : Type} (k : (List ByteArray) → Option ρ) (L0 : (List ByteArray) → Int → (List ByteArray) → Option ρ) (a0 : (List ByteArray)) : Option ρ := (cond (decide (0 ≤ (List.length a0 : Int)) && decide ((List.length a0 : Int) ≤ 549755813888)) (L0 a0 (0 : Int) (List.replicate (Int.toNat (List.length a0 : Int)) ByteArray.empty)) none)
theorem laws_toStringS_ok {ρ : Type} (k : (List ByteArray) → Option ρ) (a0 : (List ByteArray)) (l_a0 : lnL (fun _ => True) a0) (g : G.laws_toStringS a0 = true) : ∃ n0, ∀ n, n0 ≤ n → ∀ (L0 : Nat → (List ByteArray) → Int → (List ByteArray) → Option ρ) (h0 : ∀ ( m : Nat) (v0_0 : (List ByteArray)) (v0_1 : Int) (v0_2 : (List ByteArray)), L0 (m + 1) v0_0 v0_1 v0_2 = laws_toStringS_L0 k (L0 m) v0_0 v0_1 v0_2), laws_toStringS k (L0 n) a0 = k (N.laws_toStringS a0) := by
  unfold G.laws_toStringS at g
  refine ⟨a0.length + 1, fun n hn L0 h0 => ?_⟩
  have g' : a0.length ≤ 1048576 := by simpa using g
  have hg : (decide (0 ≤ (a0.length : Int)) && decide ((a0.length : Int) ≤ 549755813888)) = true := by simp; omega
  show cond _ _ none = _
  rw [hg]
  refine (raw_copy (a := a0) ByteArray.empty ByteArray.empty (fun x => x) (k := k) (L := fun m i out => L0 m a0 i out) (R := fun i out c => laws_toStringS_L0 k (fun _ i out => c i out) a0 i out) (fun m i s => h0 m a0 i s) (fun j out c hj hl => ?_) (fun s c => ?_) hn).trans (by simp)
  · simp [laws_toStringS_L0, lt_nat, inRange_nat, hj, hl, wrap_succ (j := j) (by unfold big; omega)]
  · simp [laws_toStringS_L0]
def O_laws_toStringS : Orac := nilO
theorem ok_laws_toStringS : OracOk Try.prog sigs O_laws_toStringS := nilO_ok
def A_laws_toStringS : Ann := fun b => cond (Nat.beq b 0) ⟨[(0, false), (3, true), (4, false)], []⟩ (⟨[], []⟩)
def S_laws_toStringS_0 (v0_0 : (List ByteArray)) (v0_1 : Int) (v0_2 : (List ByteArray)) : St := [(kT 0, some (.tv (.v (.slice 9 .str) v0_0 .no))), (kT 3, some (.tv (.v (.slice 9 .str) [] (.own 24)))), (kT 4, some (.tv (.v (.int .i64) v0_1 .no))), (kR 24, some (.row 9 .str v0_2))]
noncomputable def L_laws_toStringS_0 (n m : Nat) : St → Option Ret := loopOf tab sigs O_laws_toStringS A_laws_toStringS Try.f45 [((.slice 9 .str), (.own 0))] n (fun _ => 0) 0 m
theorem b_laws_toStringS_0 (n m : Nat) (v0_0 : (List ByteArray)) (v0_1 : Int) (v0_2 : (List ByteArray)) : L_laws_toStringS_0 n (m + 1) (S_laws_toStringS_0 v0_0 v0_1 v0_2) = laws_toStringS_L0 (fun r0 => some [⟨(.slice 9 .str), r0⟩]) (fun v0_0 v0_1 v0_2 => L_laws_toStringS_0 n m (S_laws_toStringS_0 v0_0 v0_1 v0_2)) v0_0 v0_1 v0_2 := by kernel_rfl
theorem a_laws_toStringS (n : Nat) (a0 : (List ByteArray)) : absF tab sigs O_laws_toStringS A_laws_toStringS Try.f45 [((.slice 9 .str), (.own 0))] n [.val (.slice 9 .str) a0] = laws_toStringS (fun r0 => some [⟨(.slice 9 .str), r0⟩]) (fun v0_0 v0_1 v0_2 => L_laws_toStringS_0 n n (S_laws_toStringS_0 v0_0 v0_1 v0_2)) a0 := by kernel_rfl
theorem said_laws_toStringS (a0 : (List ByteArray)) (g : G.laws_toStringS a0 = true) : Said Try.prog sigs_45 45 [.val (.slice 9 .str) a0] [⟨(.slice 9 .str), N.laws_toStringS a0⟩] := said_len (T := tab) (A := A_laws_toStringS) tabOk ok_laws_toStringS tabOk.follows Try.func45 (by kernel_rfl) (by kernel_rfl) (fun hl => let ⟨n, hn⟩ := laws_toStringS_ok (ρ := Ret) (fun r0 => some [⟨(.slice 9 .str), r0⟩]) a0 hl.1 g; ⟨n, (a_laws_toStringS n a0).trans (hn n (Nat.le_refl n) (fun  m v0_0 v0_1 v0_2 => L_laws_toStringS_0 n  m (S_laws_toStringS_0 v0_0 v0_1 v0_2)) (fun  m v0_0 v0_1 v0_2 => b_laws_toStringS_0 n  m v0_0 v0_1 v0_2))⟩)
/-! laws.toEntry -/
abbrev G.laws_toEntry (a : TEntry) : Bool := decide (wE a ≤ 1048576)
abbrev N.laws_toEntry (a : TEntry) : TEntry := a
def laws_toEntry {ρ : Type} (k : TEntry → Option ρ) (a0 : TEntry) : Option ρ := (cond (G.laws_toStringS a0.2.2.2) (k (a0.1, (a0.2.1, (a0.2.2.1, (N.laws_toStringS a0.2.2.2))))) none)
theorem laws_toEntry_ok {ρ : Type} (k : TEntry → Option ρ) (a0 : TEntry) (l_a0 : (True ∧ (True ∧ (True ∧ lnL (fun _ => True) a0.2.2.2)))) (g : G.laws_toEntry a0 = true) : laws_toEntry k  a0 = k (N.laws_toEntry a0) := by
  unfold G.laws_toEntry at g
  have g' : wE a0 ≤ 1048576 := by simpa using g
  unfold wE wP at g'
  have g1 : decide (a0.2.2.2.length ≤ 1048576) = true := by simp; omega
  simp only [laws_toEntry, G.laws_toStringS, g1, cond_true]
def OP_laws_toEntry (f_laws_toStringS : (List ByteArray) → (List ByteArray)) (g_laws_toStringS : (List ByteArray) → Bool) : Orac := (orcX 45 [.val (.slice 9 .str)] (fun d => g_laws_toStringS d.1) (fun d => [⟨(.slice 9 .str), f_laws_toStringS d.1⟩]) nilO)
def O_laws_toEntry : Orac := OP_laws_toEntry N.laws_toStringS G.laws_toStringS
def laws_toEntry_P {ρ : Type} (f_laws_toStringS : (List ByteArray) → (List ByteArray)) (g_laws_toStringS : (List ByteArray) → Bool) (k : TEntry → Option ρ) (a0 : TEntry) : Option ρ := (cond (g_laws_toStringS a0.2.2.2) (k (a0.1, (a0.2.1, (a0.2.2.1, (f_laws_toStringS a0.2.2.2))))) none)
theorem ok_laws_toEntry : OracOk Try.prog sigs O_laws_toEntry := (orcX_ok rfl rfl (fun d g => said_laws_toStringS d.1 g) nilO_ok)
def A_laws_toEntry : Ann := fun b => ⟨[], []⟩
theorem aP_laws_toEntry (f_laws_toStringS : (List ByteArray) → (List ByteArray)) (g_laws_toStringS : (List ByteArray) → Bool) (n : Nat) (a0 : TEntry) : absF tab sigs (OP_laws_toEntry f_laws_toStringS g_laws_toStringS) A_laws_toEntry Try.f12 [((.pair .str (.pair (.int .i64) (.pair (.int .i64) (.slice 9 .str)))), (.pair .no (.pair .no (.pair .no (.own 0)))))] n [.val (.pair .str (.pair (.int .i64) (.pair (.int .i64) (.slice 9 .str)))) a0] = laws_toEntry_P f_laws_toStringS g_laws_toStringS (fun r0 => some [⟨(.pair .str (.pair (.int .i64) (.pair (.int .i64) (.slice 9 .str)))), r0⟩])  a0 := by kernel_rfl
theorem a_laws_toEntry (n : Nat) (a0 : TEntry) : absF tab sigs O_laws_toEntry A_laws_toEntry Try.f12 [((.pair .str (.pair (.int .i64) (.pair (.int .i64) (.slice 9 .str)))), (.pair .no (.pair .no (.pair .no (.own 0)))))] n [.val (.pair .str (.pair (.int .i64) (.pair (.int .i64) (.slice 9 .str)))) a0] = laws_toEntry (fun r0 => some [⟨(.pair .str (.pair (.int .i64) (.pair (.int .i64) (.slice 9 .str)))), r0⟩])  a0 := aP_laws_toEntry N.laws_toStringS G.laws_toStringS n a0
theorem said_laws_toEntry (a0 : TEntry) (g : G.laws_toEntry a0 = true) : Said Try.prog sigs_12 12 [.val (.pair .str (.pair (.int .i64) (.pair (.int .i64) (.slice 9 .str)))) a0] [⟨(.pair .str (.pair (.int .i64) (.pair (.int .i64) (.slice 9 .str)))), N.laws_toEntry a0⟩] := said_len (T := tab) (A := A_laws_toEntry) tabOk ok_laws_toEntry tabOk.follows Try.func12 (by kernel_rfl) (by kernel_rfl) (fun hl => ⟨0, (a_laws_toEntry 0 a0).trans (laws_toEntry_ok (ρ := Ret) (fun r0 => some [⟨(.pair .str (.pair (.int .i64) (.pair (.int .i64) (.slice 9 .str)))), r0⟩]) a0 hl.1 g)⟩)
/-! laws.toEntryS -/
abbrev G.laws_toEntryS (a : List TEntry) : Bool := decide (wEs a ≤ 1048576)
abbrev N.laws_toEntryS (a : List TEntry) : List TEntry := a
def laws_toEntryS_L0 {ρ : Type} (k : (List TEntry) → Option ρ) (L0 : (List TEntry) → Int → (List TEntry) → Option ρ) (v0_0 : (List TEntry)) (v0_1 : Int) (v0_2 : (List TEntry)) : Option ρ := (cond (decide (v0_1 < (List.length v0_0 : Int))) (cond (inRange v0_1 (List.length v0_0)) (cond (G.laws_toEntry (List.getD v0_0 (Int.toNat v0_1) (ByteArray.empty, ((0 : Int), ((0 : Int), []))))) (cond (inRange v0_1 (List.length v0_2)) (cond (inRange v0_1 (List.length v0_2)) (L0 v0_0 (IntKind.wrap .i64 (v0_1 + (1 : Int))) (List.set v0_2 (Int.toNat v0_1) (N.laws_toEntry (List.getD v0_0 (Int.toNat v0_1) (ByteArray.empty, ((0 : Int), ((0 : Int), []))))))) none) none) none) none) (k v0_2))
def laws_toEntryS {ρ : Type} (k : (List TEntry) → Option ρ) (L0 : (List TEntry) → Int → (List TEntry) → Option ρ) (a0 : (List TEntry)) : Option ρ := (cond (decide (0 ≤ (List.length a0 : Int)) && decide ((List.length a0 : Int) ≤ 549755813888)) (L0 a0 (0 : Int) (List.replicate (Int.toNat (List.length a0 : Int)) (ByteArray.empty, ((0 : Int), ((0 : Int), []))))) none)
theorem laws_toEntryS_ok {ρ : Type} (k : (List TEntry) → Option ρ) (a0 : (List TEntry)) (l_a0 : lnL (fun y => (True ∧ (True ∧ (True ∧ lnL (fun _ => True) y.2.2.2)))) a0) (g : G.laws_toEntryS a0 = true) : ∃ n0, ∀ n, n0 ≤ n → ∀ (L0 : Nat → (List TEntry) → Int → (List TEntry) → Option ρ) (h0 : ∀ ( m : Nat) (v0_0 : (List TEntry)) (v0_1 : Int) (v0_2 : (List TEntry)), L0 (m + 1) v0_0 v0_1 v0_2 = laws_toEntryS_L0 k (L0 m) v0_0 v0_1 v0_2), laws_toEntryS k (L0 n) a0 = k (N.laws_toEntryS a0) := by
  unfold G.laws_toEntryS at g
  refine ⟨a0.length + 1, fun n hn L0 h0 => ?_⟩
  have g' : wEs a0 ≤ 1048576 := by simpa using g
  have hl : a0.length ≤ 1048576 := by unfold wEs at g'; omega
  have hg : (decide (0 ≤ (a0.length : Int)) && decide ((a0.length : Int) ≤ 549755813888)) = true := by simp; omega
  show cond _ _ none = _
  rw [hg]
  refine (raw_copy (a := a0) (ByteArray.empty, (0, (0, []))) (ByteArray.empty, (0, (0, []))) (fun x => x) (k := k) (L := fun m i out => L0 m a0 i out) (R := fun i out c => laws_toEntryS_L0 k (fun _ i out => c i out) a0 i out) (fun m i s => h0 m a0 i s) (fun j out c hj hl => ?_) (fun s c => ?_) hn).trans (by simp)
  · have hw := wEs_mem (getD_mem (d := (ByteArray.empty, (0, (0, [])))) hj)
    have hw' : decide (wE (a0.getD j (ByteArray.empty, (0, (0, [])))) ≤ 1048576) = true := by simp only [decide_eq_true_eq]; omega
    simp only [laws_toEntryS_L0, G.laws_toEntry, lt_nat, inRange_nat, hj, hl, decide_true, cond_true, Int.toNat_natCast, hw', wrap_succ (j := j) (by unfold big; omega)]
  · simp [laws_toEntryS_L0]
def OP_laws_toEntryS (f_laws_toEntry : TEntry → TEntry) (g_laws_toEntry : TEntry → Bool) : Orac := (orcX 12 [.val (.pair .str (.pair (.int .i64) (.pair (.int .i64) (.slice 9 .str))))] (fun d => g_laws_toEntry d.1) (fun d => [⟨(.pair .str (.pair (.int .i64) (.pair (.int .i64) (.slice 9 .str)))), f_laws_toEntry d.1⟩]) nilO)
def O_laws_toEntryS : Orac := OP_laws_toEntryS N.laws_toEntry G.laws_toEntry
def laws_toEntryS_P_L0 {ρ : Type} (f_laws_toEntry : TEntry → TEntry) (g_laws_toEntry : TEntry → Bool) (k : (List TEntry) → Option ρ) (L0 : (List TEntry) → Int → (List TEntry) → Option ρ) (v0_0 : (List TEntry)) (v0_1 : Int) (v0_2 : (List TEntry)) : Option ρ := (cond (decide (v0_1 < (List.length v0_0 : Int))) (cond (inRange v0_1 (List.length v0_0)) (cond (g_laws_toEntry (List.getD v0_0 (Int.toNat v0_1) (ByteArray.empty, ((0 : Int), ((0 : Int), []))))) (cond (inRange v0_1 (List.length v0_2)) (cond (inRange v0_1 (List.length v0_2)) (L0 v0_0 (IntKind.wrap .i64 (v0_1 + (1 : Int))) (List.set v0_2 (Int.toNat v0_1) (f_laws_toEntry (List.getD v0_0 (Int.toNat v0_1) (ByteArray.empty, ((0 : Int), ((0 : Int), []))))))) none) none) none) none) (k v0_2))
def laws_toEntryS_P {ρ : Type} (f_laws_toEntry : TEntry → TEntry) (g_laws_toEntry : TEntry → Bool) (k : (List TEntry) → Option ρ) (L0 : (List TEntry) → Int → (List TEntry) → Option ρ) (a0 : (List TEntry)) : Option ρ := (cond (decide (0 ≤ (List.length a0 : Int)) && decide ((List.length a0 : Int) ≤ 549755813888)) (L0 a0 (0 : Int) (List.replicate (Int.toNat (List.length a0 : Int)) (ByteArray.empty, ((0 : Int), ((0 : Int), []))))) none)
theorem ok_laws_toEntryS : OracOk Try.prog sigs O_laws_toEntryS := (orcX_ok rfl rfl (fun d g => said_laws_toEntry d.1 g) nilO_ok)
def A_laws_toEntryS : Ann := fun b => cond (Nat.beq b 0) ⟨[(0, false), (3, true), (4, false)], []⟩ (⟨[], []⟩)
def S_laws_toEntryS_0 (v0_0 : (List TEntry)) (v0_1 : Int) (v0_2 : (List TEntry)) : St := [(kT 0, some (.tv (.v (.slice 24 (.pair .str (.pair (.int .i64) (.pair (.int .i64) (.slice 9 .str))))) v0_0 .no))), (kT 3, some (.tv (.v (.slice 31 (.pair .str (.pair (.int .i64) (.pair (.int .i64) (.slice 9 .str))))) [] (.own 24)))), (kT 4, some (.tv (.v (.int .i64) v0_1 .no))), (kR 24, some (.row 31 (.pair .str (.pair (.int .i64) (.pair (.int .i64) (.slice 9 .str)))) v0_2))]
noncomputable def L_P_laws_toEntryS_0 (f_laws_toEntry : TEntry → TEntry) (g_laws_toEntry : TEntry → Bool) (n m : Nat) : St → Option Ret := loopOf tab sigs (OP_laws_toEntryS f_laws_toEntry g_laws_toEntry) A_laws_toEntryS Try.f19 [((.slice 31 (.pair .str (.pair (.int .i64) (.pair (.int .i64) (.slice 9 .str))))), (.own 0))] n (fun _ => 0) 0 m
noncomputable def L_laws_toEntryS_0 (n m : Nat) : St → Option Ret := L_P_laws_toEntryS_0 N.laws_toEntry G.laws_toEntry n m
theorem bP_laws_toEntryS_0 (f_laws_toEntry : TEntry → TEntry) (g_laws_toEntry : TEntry → Bool) (n m : Nat) (v0_0 : (List TEntry)) (v0_1 : Int) (v0_2 : (List TEntry)) : L_P_laws_toEntryS_0 f_laws_toEntry g_laws_toEntry n (m + 1) (S_laws_toEntryS_0 v0_0 v0_1 v0_2) = laws_toEntryS_P_L0 f_laws_toEntry g_laws_toEntry (fun r0 => some [⟨(.slice 31 (.pair .str (.pair (.int .i64) (.pair (.int .i64) (.slice 9 .str))))), r0⟩]) (fun v0_0 v0_1 v0_2 => L_P_laws_toEntryS_0 f_laws_toEntry g_laws_toEntry n m (S_laws_toEntryS_0 v0_0 v0_1 v0_2)) v0_0 v0_1 v0_2 := by kernel_rfl
theorem b_laws_toEntryS_0 (n m : Nat) (v0_0 : (List TEntry)) (v0_1 : Int) (v0_2 : (List TEntry)) : L_laws_toEntryS_0 n (m + 1) (S_laws_toEntryS_0 v0_0 v0_1 v0_2) = laws_toEntryS_L0 (fun r0 => some [⟨(.slice 31 (.pair .str (.pair (.int .i64) (.pair (.int .i64) (.slice 9 .str))))), r0⟩]) (fun v0_0 v0_1 v0_2 => L_laws_toEntryS_0 n m (S_laws_toEntryS_0 v0_0 v0_1 v0_2)) v0_0 v0_1 v0_2 := bP_laws_toEntryS_0 N.laws_toEntry G.laws_toEntry n m v0_0 v0_1 v0_2
theorem aP_laws_toEntryS (f_laws_toEntry : TEntry → TEntry) (g_laws_toEntry : TEntry → Bool) (n : Nat) (a0 : (List TEntry)) : absF tab sigs (OP_laws_toEntryS f_laws_toEntry g_laws_toEntry) A_laws_toEntryS Try.f19 [((.slice 31 (.pair .str (.pair (.int .i64) (.pair (.int .i64) (.slice 9 .str))))), (.own 0))] n [.val (.slice 24 (.pair .str (.pair (.int .i64) (.pair (.int .i64) (.slice 9 .str))))) a0] = laws_toEntryS_P f_laws_toEntry g_laws_toEntry (fun r0 => some [⟨(.slice 31 (.pair .str (.pair (.int .i64) (.pair (.int .i64) (.slice 9 .str))))), r0⟩]) (fun v0_0 v0_1 v0_2 => L_P_laws_toEntryS_0 f_laws_toEntry g_laws_toEntry n n (S_laws_toEntryS_0 v0_0 v0_1 v0_2)) a0 := by kernel_rfl
theorem a_laws_toEntryS (n : Nat) (a0 : (List TEntry)) : absF tab sigs O_laws_toEntryS A_laws_toEntryS Try.f19 [((.slice 31 (.pair .str (.pair (.int .i64) (.pair (.int .i64) (.slice 9 .str))))), (.own 0))] n [.val (.slice 24 (.pair .str (.pair (.int .i64) (.pair (.int .i64) (.slice 9 .str))))) a0] = laws_toEntryS (fun r0 => some [⟨(.slice 31 (.pair .str (.pair (.int .i64) (.pair (.int .i64) (.slice 9 .str))))), r0⟩]) (fun v0_0 v0_1 v0_2 => L_laws_toEntryS_0 n n (S_laws_toEntryS_0 v0_0 v0_1 v0_2)) a0 := aP_laws_toEntryS N.laws_toEntry G.laws_toEntry n a0
theorem said_laws_toEntryS (a0 : (List TEntry)) (g : G.laws_toEntryS a0 = true) : Said Try.prog sigs_19 19 [.val (.slice 24 (.pair .str (.pair (.int .i64) (.pair (.int .i64) (.slice 9 .str))))) a0] [⟨(.slice 31 (.pair .str (.pair (.int .i64) (.pair (.int .i64) (.slice 9 .str))))), N.laws_toEntryS a0⟩] := said_len (T := tab) (A := A_laws_toEntryS) tabOk ok_laws_toEntryS tabOk.follows Try.func19 (by kernel_rfl) (by kernel_rfl) (fun hl => let ⟨n, hn⟩ := laws_toEntryS_ok (ρ := Ret) (fun r0 => some [⟨(.slice 31 (.pair .str (.pair (.int .i64) (.pair (.int .i64) (.slice 9 .str))))), r0⟩]) a0 hl.1 g; ⟨n, (a_laws_toEntryS n a0).trans (hn n (Nat.le_refl n) (fun  m v0_0 v0_1 v0_2 => L_laws_toEntryS_0 n  m (S_laws_toEntryS_0 v0_0 v0_1 v0_2)) (fun  m v0_0 v0_1 v0_2 => b_laws_toEntryS_0 n  m v0_0 v0_1 v0_2))⟩)
/-! spec.FindEntry -/
abbrev N.spec_FindEntry (l : List TEntry) (s : ByteArray) : Int := findEntry l s
def spec_FindEntry_L0 {ρ : Type} (k : Int → Option ρ) (L0 : (List TEntry) → ByteArray → Int → Option ρ) (v0_0 : (List TEntry)) (v0_1 : ByteArray) (v0_2 : Int) : Option ρ := (cond (decide (v0_2 < (List.length v0_0 : Int))) (cond (inRange v0_2 (List.length v0_0)) (cond ((ByteArray.toList (List.getD v0_0 (Int.toNat v0_2) (ByteArray.empty, ((0 : Int), ((0 : Int), [])))).1) == (ByteArray.toList v0_1)) (k v0_2) (L0 v0_0 v0_1 (IntKind.wrap .i64 (v0_2 + (1 : Int))))) none) (k (-1 : Int)))
def spec_FindEntry {ρ : Type} (k : Int → Option ρ) (L0 : (List TEntry) → ByteArray → Int → Option ρ) (a0 : (List TEntry)) (a1 : ByteArray) : Option ρ := (L0 a0 a1 (0 : Int))
theorem spec_FindEntry_ok {ρ : Type} (k : Int → Option ρ) (a0 : (List TEntry)) (a1 : ByteArray) (l_a0 : lnL (fun y => (True ∧ (True ∧ (True ∧ lnL (fun _ => True) y.2.2.2)))) a0) : ∃ n0, ∀ n, n0 ≤ n → ∀ (L0 : Nat → (List TEntry) → ByteArray → Int → Option ρ) (h0 : ∀ ( m : Nat) (v0_0 : (List TEntry)) (v0_1 : ByteArray) (v0_2 : Int), L0 (m + 1) v0_0 v0_1 v0_2 = spec_FindEntry_L0 k (L0 m) v0_0 v0_1 v0_2), spec_FindEntry k (L0 n) a0 a1 = k (N.spec_FindEntry a0 a1) := by
  refine ⟨a0.length + 1, fun n hn L0 h0 => ?_⟩
  refine raw_idx (a := a0) (ByteArray.empty, (0, (0, []))) (fun e => eqStr e.1 a1) (k := k) (σ := Unit) (s := ()) (L := fun m i _ => L0 m a0 a1 i) (R := fun i s c => spec_FindEntry_L0 k (fun _ _ i => c i ()) a0 a1 i) (fun m i s => h0 m a0 a1 i) (fun j s c hj => ?_) (fun s c => ?_) hn
  · have : j < big := by have := l_a0.1; omega
    simp [spec_FindEntry_L0, lt_nat, inRange_nat, hj, wrap_succ this, eqStr]
  · simp [spec_FindEntry_L0]
def O_spec_FindEntry : Orac := nilO
theorem ok_spec_FindEntry : OracOk Try.prog sigs O_spec_FindEntry := nilO_ok
def A_spec_FindEntry : Ann := fun b => cond (Nat.beq b 0) ⟨[(0, false), (1, false), (5, false)], []⟩ (⟨[], []⟩)
def S_spec_FindEntry_0 (v0_0 : (List TEntry)) (v0_1 : ByteArray) (v0_2 : Int) : St := [(kT 0, some (.tv (.v (.slice 31 (.pair .str (.pair (.int .i64) (.pair (.int .i64) (.slice 9 .str))))) v0_0 .no))), (kT 1, some (.tv (.v .str v0_1 .no))), (kT 5, some (.tv (.v (.int .i64) v0_2 .no)))]
noncomputable def L_spec_FindEntry_0 (n m : Nat) : St → Option Ret := loopOf tab sigs O_spec_FindEntry A_spec_FindEntry Try.f57 [((.int .i64), .no)] n (fun _ => 0) 0 m
theorem b_spec_FindEntry_0 (n m : Nat) (v0_0 : (List TEntry)) (v0_1 : ByteArray) (v0_2 : Int) : L_spec_FindEntry_0 n (m + 1) (S_spec_FindEntry_0 v0_0 v0_1 v0_2) = spec_FindEntry_L0 (fun r0 => some [⟨(.int .i64), r0⟩]) (fun v0_0 v0_1 v0_2 => L_spec_FindEntry_0 n m (S_spec_FindEntry_0 v0_0 v0_1 v0_2)) v0_0 v0_1 v0_2 := by kernel_rfl
theorem a_spec_FindEntry (n : Nat) (a0 : (List TEntry)) (a1 : ByteArray) : absF tab sigs O_spec_FindEntry A_spec_FindEntry Try.f57 [((.int .i64), .no)] n [.val (.slice 31 (.pair .str (.pair (.int .i64) (.pair (.int .i64) (.slice 9 .str))))) a0, .val .str a1] = spec_FindEntry (fun r0 => some [⟨(.int .i64), r0⟩]) (fun v0_0 v0_1 v0_2 => L_spec_FindEntry_0 n n (S_spec_FindEntry_0 v0_0 v0_1 v0_2)) a0 a1 := by kernel_rfl
theorem said_spec_FindEntry (a0 : (List TEntry)) (a1 : ByteArray) : Said Try.prog sigs_57 57 [.val (.slice 31 (.pair .str (.pair (.int .i64) (.pair (.int .i64) (.slice 9 .str))))) a0, .val .str a1] [⟨(.int .i64), N.spec_FindEntry a0 a1⟩] := said_len (T := tab) (A := A_spec_FindEntry) tabOk ok_spec_FindEntry tabOk.follows Try.func57 (by kernel_rfl) (by kernel_rfl) (fun hl => let ⟨n, hn⟩ := spec_FindEntry_ok (ρ := Ret) (fun r0 => some [⟨(.int .i64), r0⟩]) a0 a1 hl.1; ⟨n, (a_spec_FindEntry n a0 a1).trans (hn n (Nat.le_refl n) (fun  m v0_0 v0_1 v0_2 => L_spec_FindEntry_0 n  m (S_spec_FindEntry_0 v0_0 v0_1 v0_2)) (fun  m v0_0 v0_1 v0_2 => b_spec_FindEntry_0 n  m v0_0 v0_1 v0_2))⟩)
/-! spec.BytesToInts -/
abbrev G.spec_BytesToInts (b : List Int) : Bool := decide (b.length ≤ 1048577)
abbrev N.spec_BytesToInts (b : List Int) : List Int := bytesInts b
def spec_BytesToInts_L0 {ρ : Type} (k : (List Int) → Option ρ) (L0 : (List Int) → Int → (List Int) → Option ρ) (v0_0 : (List Int)) (v0_1 : Int) (v0_2 : (List Int)) : Option ρ := (cond (decide (v0_1 < (List.length v0_0 : Int))) (cond (inRange v0_1 (List.length v0_0)) (cond (fit (List.length v0_2) (List.length [(IntKind.wrap .i64 (List.getD v0_0 (Int.toNat v0_1) (0 : Int)))])) (L0 v0_0 (IntKind.wrap .i64 (v0_1 + (1 : Int))) (List.append v0_2 [(IntKind.wrap .i64 (List.getD v0_0 (Int.toNat v0_1) (0 : Int)))])) none) none) (k v0_2))
def spec_BytesToInts {ρ : Type} (k : (List Int) → Option ρ) (L0 : (List Int) → Int → (List Int) → Option ρ) (a0 : (List Int)) : Option ρ := (L0 a0 (0 : Int) [(List.length a0 : Int)])
theorem spec_BytesToInts_ok {ρ : Type} (k : (List Int) → Option ρ) (a0 : (List Int)) (l_a0 : lnL (fun _ => True) a0) (g : G.spec_BytesToInts a0 = true) : ∃ n0, ∀ n, n0 ≤ n → ∀ (L0 : Nat → (List Int) → Int → (List Int) → Option ρ) (h0 : ∀ ( m : Nat) (v0_0 : (List Int)) (v0_1 : Int) (v0_2 : (List Int)), L0 (m + 1) v0_0 v0_1 v0_2 = spec_BytesToInts_L0 k (L0 m) v0_0 v0_1 v0_2), spec_BytesToInts k (L0 n) a0 = k (N.spec_BytesToInts a0) := by
  unfold G.spec_BytesToInts at g
  have hlen : a0.length ≤ 1048577 := of_decide_eq_true g
  refine ⟨a0.length + 1, fun n hn L0 h0 => ?_⟩
  refine (raw_foldl (a := a0) 0 (fun o x => o ++ [IntKind.wrap .i64 x]) (k := k) (s := [(a0.length : Int)]) (L := fun m i s => L0 m a0 i s) (R := fun i s c => spec_BytesToInts_L0 k (fun _ i s => c i s) a0 i s) (fun m i s => h0 m a0 i s) (fun j o => o.length ≤ j + 1) (fun j s c hj hI => ?_) (fun j s hj hI => by simp; exact hI) (fun s c => ?_) hn (by simp)).trans (by rw [foldl_app]; rfl)
  · have : j < big := by unfold big; omega
    have e3 : fit s.length 1 = true := fit_of (by omega)
    simp only [spec_BytesToInts_L0, lt_nat, inRange_nat, decide_eq_true hj, cond_true, Int.toNat_natCast, List.length_singleton, e3, wrap_succ this, List.append_eq]
  · simp [spec_BytesToInts_L0]
def O_spec_BytesToInts : Orac := nilO
theorem ok_spec_BytesToInts : OracOk Try.prog sigs O_spec_BytesToInts := nilO_ok
def A_spec_BytesToInts : Ann := fun b => cond (Nat.beq b 0) ⟨[(0, false), (3, true), (4, false)], []⟩ (⟨[], []⟩)
def S_spec_BytesToInts_0 (v0_0 : (List Int)) (v0_1 : Int) (v0_2 : (List Int)) : St := [(kT 0, some (.tv (.v (.slice 5 (.int .u8)) v0_0 .no))), (kT 3, some (.tv (.v (.slice 3 (.int .i64)) [] (.own 24)))), (kT 4, some (.tv (.v (.int .i64) v0_1 .no))), (kR 24, some (.row 3 (.int .i64) v0_2))]
noncomputable def L_spec_BytesToInts_0 (n m : Nat) : St → Option Ret := loopOf tab sigs O_spec_BytesToInts A_spec_BytesToInts Try.f119 [((.slice 3 (.int .i64)), (.own 0))] n (fun _ => 0) 0 m
theorem b_spec_BytesToInts_0 (n m : Nat) (v0_0 : (List Int)) (v0_1 : Int) (v0_2 : (List Int)) : L_spec_BytesToInts_0 n (m + 1) (S_spec_BytesToInts_0 v0_0 v0_1 v0_2) = spec_BytesToInts_L0 (fun r0 => some [⟨(.slice 3 (.int .i64)), r0⟩]) (fun v0_0 v0_1 v0_2 => L_spec_BytesToInts_0 n m (S_spec_BytesToInts_0 v0_0 v0_1 v0_2)) v0_0 v0_1 v0_2 := by kernel_rfl
theorem a_spec_BytesToInts (n : Nat) (a0 : (List Int)) : absF tab sigs O_spec_BytesToInts A_spec_BytesToInts Try.f119 [((.slice 3 (.int .i64)), (.own 0))] n [.val (.slice 5 (.int .u8)) a0] = spec_BytesToInts (fun r0 => some [⟨(.slice 3 (.int .i64)), r0⟩]) (fun v0_0 v0_1 v0_2 => L_spec_BytesToInts_0 n n (S_spec_BytesToInts_0 v0_0 v0_1 v0_2)) a0 := by kernel_rfl
theorem said_spec_BytesToInts (a0 : (List Int)) (g : G.spec_BytesToInts a0 = true) : Said Try.prog sigs_119 119 [.val (.slice 5 (.int .u8)) a0] [⟨(.slice 3 (.int .i64)), N.spec_BytesToInts a0⟩] := said_len (T := tab) (A := A_spec_BytesToInts) tabOk ok_spec_BytesToInts tabOk.follows Try.func119 (by kernel_rfl) (by kernel_rfl) (fun hl => let ⟨n, hn⟩ := spec_BytesToInts_ok (ρ := Ret) (fun r0 => some [⟨(.slice 3 (.int .i64)), r0⟩]) a0 hl.1 g; ⟨n, (a_spec_BytesToInts n a0).trans (hn n (Nat.le_refl n) (fun  m v0_0 v0_1 v0_2 => L_spec_BytesToInts_0 n  m (S_spec_BytesToInts_0 v0_0 v0_1 v0_2)) (fun  m v0_0 v0_1 v0_2 => b_spec_BytesToInts_0 n  m v0_0 v0_1 v0_2))⟩)
/-! spec.LabelInts -/
abbrev G.spec_LabelInts (s : ByteArray) : Bool := decide (s.size ≤ 1048576)
abbrev N.spec_LabelInts (s : ByteArray) : List Int := labelInts s
def spec_LabelInts {ρ : Type} (k : (List Int) → Option ρ) (a0 : ByteArray) : Option ρ := (cond (decide ((ByteArray.size a0 : Int) ≤ 549755813888)) (cond (G.spec_BytesToInts (bytesOf a0)) (k (N.spec_BytesToInts (bytesOf a0))) none) none)
theorem spec_LabelInts_ok {ρ : Type} (k : (List Int) → Option ρ) (a0 : ByteArray) (g : G.spec_LabelInts a0 = true) : spec_LabelInts k  a0 = k (N.spec_LabelInts a0) := by
  unfold G.spec_LabelInts at g
  have h : a0.size ≤ 1048576 := of_decide_eq_true g
  have h1 : decide ((a0.size : Int) ≤ 549755813888) = true := by simp; omega
  have h2 : G.spec_BytesToInts (bytesOf a0) = true := decide_eq_true (by rw [bytesOf_length]; omega)
  show cond _ (cond _ _ none) none = _
  rw [h1, h2]
  rfl
def OP_spec_LabelInts (f_spec_BytesToInts : (List Int) → (List Int)) (g_spec_BytesToInts : (List Int) → Bool) : Orac := (orcX 119 [.val (.slice 5 (.int .u8))] (fun d => g_spec_BytesToInts d.1) (fun d => [⟨(.slice 3 (.int .i64)), f_spec_BytesToInts d.1⟩]) nilO)
def O_spec_LabelInts : Orac := OP_spec_LabelInts N.spec_BytesToInts G.spec_BytesToInts
def spec_LabelInts_P {ρ : Type} (f_spec_BytesToInts : (List Int) → (List Int)) (g_spec_BytesToInts : (List Int) → Bool) (k : (List Int) → Option ρ) (a0 : ByteArray) : Option ρ := (cond (decide ((ByteArray.size a0 : Int) ≤ 549755813888)) (cond (g_spec_BytesToInts (bytesOf a0)) (k (f_spec_BytesToInts (bytesOf a0))) none) none)
theorem ok_spec_LabelInts : OracOk Try.prog sigs O_spec_LabelInts := (orcX_ok rfl rfl (fun d g => said_spec_BytesToInts d.1 g) nilO_ok)
def A_spec_LabelInts : Ann := fun b => ⟨[], []⟩
theorem aP_spec_LabelInts (f_spec_BytesToInts : (List Int) → (List Int)) (g_spec_BytesToInts : (List Int) → Bool) (n : Nat) (a0 : ByteArray) : absF tab sigs (OP_spec_LabelInts f_spec_BytesToInts g_spec_BytesToInts) A_spec_LabelInts Try.f109 [((.slice 3 (.int .i64)), (.own 0))] n [.val .str a0] = spec_LabelInts_P f_spec_BytesToInts g_spec_BytesToInts (fun r0 => some [⟨(.slice 3 (.int .i64)), r0⟩])  a0 := by kernel_rfl
theorem a_spec_LabelInts (n : Nat) (a0 : ByteArray) : absF tab sigs O_spec_LabelInts A_spec_LabelInts Try.f109 [((.slice 3 (.int .i64)), (.own 0))] n [.val .str a0] = spec_LabelInts (fun r0 => some [⟨(.slice 3 (.int .i64)), r0⟩])  a0 := aP_spec_LabelInts N.spec_BytesToInts G.spec_BytesToInts n a0
theorem said_spec_LabelInts (a0 : ByteArray) (g : G.spec_LabelInts a0 = true) : Said Try.prog sigs_109 109 [.val .str a0] [⟨(.slice 3 (.int .i64)), N.spec_LabelInts a0⟩] := said_len (T := tab) (A := A_spec_LabelInts) tabOk ok_spec_LabelInts tabOk.follows Try.func109 (by kernel_rfl) (by kernel_rfl) (fun hl => ⟨0, (a_spec_LabelInts 0 a0).trans (spec_LabelInts_ok (ρ := Ret) (fun r0 => some [⟨(.slice 3 (.int .i64)), r0⟩]) a0 g)⟩)
/-! spec.EntryInts -/
abbrev G.spec_EntryInts (e : TEntry) : Bool := decide (wE e ≤ 1048576)
abbrev N.spec_EntryInts (e : TEntry) : List Int := entryInts e
def spec_EntryInts_L0 {ρ : Type} (k : (List Int) → Option ρ) (L0 : Int → TEntry → (List Int) → Option ρ) (v0_0 : Int) (v0_1 : TEntry) (v0_2 : (List Int)) : Option ρ := (cond (decide (v0_0 < (List.length v0_1.2.2.2 : Int))) (cond (inRange v0_0 (List.length v0_1.2.2.2)) (cond (G.spec_LabelInts (List.getD v0_1.2.2.2 (Int.toNat v0_0) ByteArray.empty)) (cond (fit (List.length v0_2) (List.length (N.spec_LabelInts (List.getD v0_1.2.2.2 (Int.toNat v0_0) ByteArray.empty)))) (L0 (IntKind.wrap .i64 (v0_0 + (1 : Int))) v0_1 (List.append v0_2 (N.spec_LabelInts (List.getD v0_1.2.2.2 (Int.toNat v0_0) ByteArray.empty)))) none) none) none) (k v0_2))
def spec_EntryInts {ρ : Type} (k : (List Int) → Option ρ) (L0 : Int → TEntry → (List Int) → Option ρ) (a0 : TEntry) : Option ρ := (cond (G.spec_LabelInts a0.1) (cond (fit (List.length (N.spec_LabelInts a0.1)) (List.length [a0.2.1, a0.2.2.1, (List.length a0.2.2.2 : Int)])) (L0 (0 : Int) a0 (List.append (N.spec_LabelInts a0.1) [a0.2.1, a0.2.2.1, (List.length a0.2.2.2 : Int)])) none) none)
theorem spec_EntryInts_ok {ρ : Type} (k : (List Int) → Option ρ) (a0 : TEntry) (l_a0 : (True ∧ (True ∧ (True ∧ lnL (fun _ => True) a0.2.2.2)))) (g : G.spec_EntryInts a0 = true) : ∃ n0, ∀ n, n0 ≤ n → ∀ (L0 : Nat → Int → TEntry → (List Int) → Option ρ) (h0 : ∀ ( m : Nat) (v0_0 : Int) (v0_1 : TEntry) (v0_2 : (List Int)), L0 (m + 1) v0_0 v0_1 v0_2 = spec_EntryInts_L0 k (L0 m) v0_0 v0_1 v0_2), spec_EntryInts k (L0 n) a0 = k (N.spec_EntryInts a0) := by
  unfold G.spec_EntryInts at g
  have hw : wE a0 ≤ 1048576 := of_decide_eq_true g
  have hw2 : a0.1.size + (a0.2.2.2.length + wsum ByteArray.size a0.2.2.2) ≤ 1048576 := hw
  have g1 : decide (a0.1.size ≤ 1048576) = true := by simp; omega
  have f1 : fit (labelInts a0.1).length 3 = true := fit_of (by rw [labelInts_len]; omega)
  refine ⟨a0.2.2.2.length + 1, fun n hn L0 h0 => ?_⟩
  show cond (decide (a0.1.size ≤ 1048576)) (cond (fit (labelInts a0.1).length 3) (L0 n 0 a0 (labelInts a0.1 ++ [a0.2.1, a0.2.2.1, (a0.2.2.2.length : Int)])) none) none = k (entryInts a0)
  rw [g1, f1]
  have key := raw_run0 (σ := List Int) (L := fun m i s => L0 m i a0 s) (R := fun i s c => spec_EntryInts_L0 k (fun i _ s => c i s) i a0 s) (fun m i s => h0 m i a0 s) a0.2.2.2.length (fun j s => s.length + wP (a0.2.2.2.drop j) ≤ 4194304) (fun j s => k (s ++ (a0.2.2.2.drop j).flatMap labelInts)) (fun j s c hj hI hc => ?_) (fun s c _ => ?_) hn (s := labelInts a0.1 ++ [a0.2.1, a0.2.2.1, (a0.2.2.2.length : Int)]) (by rw [List.drop_zero, List.length_append, labelInts_len]; unfold wP; simp; omega)
  · rw [List.drop_zero] at key
    exact key
  · have hd := drop_cons ByteArray.empty hj
    have hp : wP (a0.2.2.2.drop j) = 1 + (a0.2.2.2.getD j ByteArray.empty).size + wP (a0.2.2.2.drop (j + 1)) := by
      rw [hd]
      unfold wP
      rw [List.length_cons]
      show _ + (_ + _) = _
      omega
    have hm := wsum_mem (wt := ByteArray.size) (getD_mem (d := ByteArray.empty) hj)
    have g2 : decide ((a0.2.2.2.getD j ByteArray.empty).size ≤ 1048576) = true := by simp only [decide_eq_true_eq]; omega
    have e3 : fit s.length (labelInts (a0.2.2.2.getD j ByteArray.empty)).length = true := fit_of (by rw [labelInts_len]; omega)
    have := hc (s ++ labelInts (a0.2.2.2.getD j ByteArray.empty)) (by rw [List.length_append, labelInts_len]; omega)
    simp only [spec_EntryInts_L0, lt_nat, inRange_nat, decide_eq_true hj, cond_true, Int.toNat_natCast, G.spec_LabelInts, N.spec_LabelInts, g2, e3, wrap_succ (j := j) (by unfold big; omega), List.append_eq, this]
    rw [hd]
    simp
  · simp [spec_EntryInts_L0]
def OP_spec_EntryInts (f_spec_LabelInts : ByteArray → (List Int)) (g_spec_LabelInts : ByteArray → Bool) : Orac := (orcX 109 [.val .str] (fun d => g_spec_LabelInts d.1) (fun d => [⟨(.slice 3 (.int .i64)), f_spec_LabelInts d.1⟩]) nilO)
def O_spec_EntryInts : Orac := OP_spec_EntryInts N.spec_LabelInts G.spec_LabelInts
def spec_EntryInts_P_L0 {ρ : Type} (f_spec_LabelInts : ByteArray → (List Int)) (g_spec_LabelInts : ByteArray → Bool) (k : (List Int) → Option ρ) (L0 : Int → TEntry → (List Int) → Option ρ) (v0_0 : Int) (v0_1 : TEntry) (v0_2 : (List Int)) : Option ρ := (cond (decide (v0_0 < (List.length v0_1.2.2.2 : Int))) (cond (inRange v0_0 (List.length v0_1.2.2.2)) (cond (g_spec_LabelInts (List.getD v0_1.2.2.2 (Int.toNat v0_0) ByteArray.empty)) (cond (fit (List.length v0_2) (List.length (f_spec_LabelInts (List.getD v0_1.2.2.2 (Int.toNat v0_0) ByteArray.empty)))) (L0 (IntKind.wrap .i64 (v0_0 + (1 : Int))) v0_1 (List.append v0_2 (f_spec_LabelInts (List.getD v0_1.2.2.2 (Int.toNat v0_0) ByteArray.empty)))) none) none) none) (k v0_2))
def spec_EntryInts_P {ρ : Type} (f_spec_LabelInts : ByteArray → (List Int)) (g_spec_LabelInts : ByteArray → Bool) (k : (List Int) → Option ρ) (L0 : Int → TEntry → (List Int) → Option ρ) (a0 : TEntry) : Option ρ := (cond (g_spec_LabelInts a0.1) (cond (fit (List.length (f_spec_LabelInts a0.1)) (List.length [a0.2.1, a0.2.2.1, (List.length a0.2.2.2 : Int)])) (L0 (0 : Int) a0 (List.append (f_spec_LabelInts a0.1) [a0.2.1, a0.2.2.1, (List.length a0.2.2.2 : Int)])) none) none)
theorem ok_spec_EntryInts : OracOk Try.prog sigs O_spec_EntryInts := (orcX_ok rfl rfl (fun d g => said_spec_LabelInts d.1 g) nilO_ok)
def A_spec_EntryInts : Ann := fun b => cond (Nat.beq b 0) ⟨[(1, false), (3, true), (4, false)], [(1, false)]⟩ (⟨[], []⟩)
def S_spec_EntryInts_0 (v0_0 : Int) (v0_1 : TEntry) (v0_2 : (List Int)) : St := [(kT 1, some (.tv (.box 1 []))), (kT 3, some (.tv (.v (.slice 3 (.int .i64)) [] (.own 24)))), (kT 4, some (.tv (.v (.int .i64) v0_0 .no))), (kB 1, some (.box (.pair .str (.pair (.int .i64) (.pair (.int .i64) (.slice 9 .str)))) v0_1 .no)), (kR 24, some (.row 3 (.int .i64) v0_2))]
noncomputable def L_P_spec_EntryInts_0 (f_spec_LabelInts : ByteArray → (List Int)) (g_spec_LabelInts : ByteArray → Bool) (n m : Nat) : St → Option Ret := loopOf tab sigs (OP_spec_EntryInts f_spec_LabelInts g_spec_LabelInts) A_spec_EntryInts Try.f87 [((.slice 3 (.int .i64)), (.own 0))] n (fun _ => 0) 0 m
noncomputable def L_spec_EntryInts_0 (n m : Nat) : St → Option Ret := L_P_spec_EntryInts_0 N.spec_LabelInts G.spec_LabelInts n m
theorem bP_spec_EntryInts_0 (f_spec_LabelInts : ByteArray → (List Int)) (g_spec_LabelInts : ByteArray → Bool) (n m : Nat) (v0_0 : Int) (v0_1 : TEntry) (v0_2 : (List Int)) : L_P_spec_EntryInts_0 f_spec_LabelInts g_spec_LabelInts n (m + 1) (S_spec_EntryInts_0 v0_0 v0_1 v0_2) = spec_EntryInts_P_L0 f_spec_LabelInts g_spec_LabelInts (fun r0 => some [⟨(.slice 3 (.int .i64)), r0⟩]) (fun v0_0 v0_1 v0_2 => L_P_spec_EntryInts_0 f_spec_LabelInts g_spec_LabelInts n m (S_spec_EntryInts_0 v0_0 v0_1 v0_2)) v0_0 v0_1 v0_2 := by kernel_rfl
theorem b_spec_EntryInts_0 (n m : Nat) (v0_0 : Int) (v0_1 : TEntry) (v0_2 : (List Int)) : L_spec_EntryInts_0 n (m + 1) (S_spec_EntryInts_0 v0_0 v0_1 v0_2) = spec_EntryInts_L0 (fun r0 => some [⟨(.slice 3 (.int .i64)), r0⟩]) (fun v0_0 v0_1 v0_2 => L_spec_EntryInts_0 n m (S_spec_EntryInts_0 v0_0 v0_1 v0_2)) v0_0 v0_1 v0_2 := bP_spec_EntryInts_0 N.spec_LabelInts G.spec_LabelInts n m v0_0 v0_1 v0_2
theorem aP_spec_EntryInts (f_spec_LabelInts : ByteArray → (List Int)) (g_spec_LabelInts : ByteArray → Bool) (n : Nat) (a0 : TEntry) : absF tab sigs (OP_spec_EntryInts f_spec_LabelInts g_spec_LabelInts) A_spec_EntryInts Try.f87 [((.slice 3 (.int .i64)), (.own 0))] n [.val (.pair .str (.pair (.int .i64) (.pair (.int .i64) (.slice 9 .str)))) a0] = spec_EntryInts_P f_spec_LabelInts g_spec_LabelInts (fun r0 => some [⟨(.slice 3 (.int .i64)), r0⟩]) (fun v0_0 v0_1 v0_2 => L_P_spec_EntryInts_0 f_spec_LabelInts g_spec_LabelInts n n (S_spec_EntryInts_0 v0_0 v0_1 v0_2)) a0 := by kernel_rfl
theorem a_spec_EntryInts (n : Nat) (a0 : TEntry) : absF tab sigs O_spec_EntryInts A_spec_EntryInts Try.f87 [((.slice 3 (.int .i64)), (.own 0))] n [.val (.pair .str (.pair (.int .i64) (.pair (.int .i64) (.slice 9 .str)))) a0] = spec_EntryInts (fun r0 => some [⟨(.slice 3 (.int .i64)), r0⟩]) (fun v0_0 v0_1 v0_2 => L_spec_EntryInts_0 n n (S_spec_EntryInts_0 v0_0 v0_1 v0_2)) a0 := aP_spec_EntryInts N.spec_LabelInts G.spec_LabelInts n a0
theorem said_spec_EntryInts (a0 : TEntry) (g : G.spec_EntryInts a0 = true) : Said Try.prog sigs_87 87 [.val (.pair .str (.pair (.int .i64) (.pair (.int .i64) (.slice 9 .str)))) a0] [⟨(.slice 3 (.int .i64)), N.spec_EntryInts a0⟩] := said_len (T := tab) (A := A_spec_EntryInts) tabOk ok_spec_EntryInts tabOk.follows Try.func87 (by kernel_rfl) (by kernel_rfl) (fun hl => let ⟨n, hn⟩ := spec_EntryInts_ok (ρ := Ret) (fun r0 => some [⟨(.slice 3 (.int .i64)), r0⟩]) a0 hl.1 g; ⟨n, (a_spec_EntryInts n a0).trans (hn n (Nat.le_refl n) (fun  m v0_0 v0_1 v0_2 => L_spec_EntryInts_0 n  m (S_spec_EntryInts_0 v0_0 v0_1 v0_2)) (fun  m v0_0 v0_1 v0_2 => b_spec_EntryInts_0 n  m v0_0 v0_1 v0_2))⟩)
/-! spec.l1In -/
abbrev N.spec_l1In (n lo hi : Int) : Bool := inR n lo hi
def spec_l1In {ρ : Type} (k : Bool → Option ρ) (a0 : Int) (a1 : Int) (a2 : Int) : Option ρ := (cond (decide (a0 ≥ a1)) (k (decide (a0 ≤ a2))) (k false))
theorem spec_l1In_ok {ρ : Type} (k : Bool → Option ρ) (a0 : Int) (a1 : Int) (a2 : Int) : spec_l1In k  a0 a1 a2 = k (N.spec_l1In a0 a1 a2) := by
  simp only [spec_l1In, inR, ge_iff_le]
  cases decide (a1 ≤ a0) <;> rfl
def O_spec_l1In : Orac := nilO
theorem ok_spec_l1In : OracOk Try.prog sigs O_spec_l1In := nilO_ok
def A_spec_l1In : Ann := fun b => ⟨[], []⟩
theorem a_spec_l1In (n : Nat) (a0 : Int) (a1 : Int) (a2 : Int) : absF tab sigs O_spec_l1In A_spec_l1In Try.f68 [(.bool, .no)] n [.val (.int .i64) a0, .val (.int .i64) a1, .val (.int .i64) a2] = spec_l1In (fun r0 => some [⟨.bool, r0⟩])  a0 a1 a2 := by kernel_rfl
theorem said_spec_l1In (a0 : Int) (a1 : Int) (a2 : Int) : Said Try.prog sigs_68 68 [.val (.int .i64) a0, .val (.int .i64) a1, .val (.int .i64) a2] [⟨.bool, N.spec_l1In a0 a1 a2⟩] := said_len (T := tab) (A := A_spec_l1In) tabOk ok_spec_l1In tabOk.follows Try.func68 (by kernel_rfl) (by kernel_rfl) (fun hl => ⟨0, (a_spec_l1In 0 a0 a1 a2).trans (spec_l1In_ok (ρ := Ret) (fun r0 => some [⟨.bool, r0⟩]) a0 a1 a2)⟩)
/-! spec.Mod -/
abbrev N.spec_Mod (n m : Int) : Int := modM n m
def spec_Mod {ρ : Type} (k : Int → Option ρ) (a0 : Int) (a1 : Int) : Option ρ := (cond (!(N.spec_l1In a1 (1 : Int) (1000000000000 : Int))) (k (0 : Int)) (cond (!(decide (a1 = 0))) (cond (!(decide (a1 = 0))) (k (Int.tmod (IntKind.wrap .i64 ((Int.tmod a0 a1) + a1)) a1)) none) none))
theorem spec_Mod_ok {ρ : Type} (k : Int → Option ρ) (a0 : Int) (a1 : Int) : spec_Mod k  a0 a1 = k (N.spec_Mod a0 a1) := by
  simp only [spec_Mod, N.spec_l1In, modM]
  cases h : inR a1 1 1000000000000
  · rfl
  · have h1 : 1 ≤ a1 := by
      unfold inR at h
      simp only [Bool.and_eq_true, decide_eq_true_eq] at h
      exact h.1
    have h2 : decide (a1 = 0) = false := by simp; omega
    simp [h2]
def OP_spec_Mod (f_spec_l1In : Int → Int → Int → Bool) : Orac := (orcX 68 [.val (.int .i64), .val (.int .i64), .val (.int .i64)] (fun d => true) (fun d => [⟨.bool, f_spec_l1In d.1 d.2.1 d.2.2.1⟩]) nilO)
def O_spec_Mod : Orac := OP_spec_Mod N.spec_l1In
def spec_Mod_P {ρ : Type} (f_spec_l1In : Int → Int → Int → Bool) (k : Int → Option ρ) (a0 : Int) (a1 : Int) : Option ρ := (cond (!(f_spec_l1In a1 (1 : Int) (1000000000000 : Int))) (k (0 : Int)) (cond (!(decide (a1 = 0))) (cond (!(decide (a1 = 0))) (k (Int.tmod (IntKind.wrap .i64 ((Int.tmod a0 a1) + a1)) a1)) none) none))
theorem ok_spec_Mod : OracOk Try.prog sigs O_spec_Mod := (orcX_ok rfl rfl (fun d g => said_spec_l1In d.1 d.2.1 d.2.2.1) nilO_ok)
def A_spec_Mod : Ann := fun b => ⟨[], []⟩
theorem aP_spec_Mod (f_spec_l1In : Int → Int → Int → Bool) (n : Nat) (a0 : Int) (a1 : Int) : absF tab sigs (OP_spec_Mod f_spec_l1In) A_spec_Mod Try.f108 [((.int .i64), .no)] n [.val (.int .i64) a0, .val (.int .i64) a1] = spec_Mod_P f_spec_l1In (fun r0 => some [⟨(.int .i64), r0⟩])  a0 a1 := by kernel_rfl
theorem a_spec_Mod (n : Nat) (a0 : Int) (a1 : Int) : absF tab sigs O_spec_Mod A_spec_Mod Try.f108 [((.int .i64), .no)] n [.val (.int .i64) a0, .val (.int .i64) a1] = spec_Mod (fun r0 => some [⟨(.int .i64), r0⟩])  a0 a1 := aP_spec_Mod N.spec_l1In n a0 a1
theorem said_spec_Mod (a0 : Int) (a1 : Int) : Said Try.prog sigs_108 108 [.val (.int .i64) a0, .val (.int .i64) a1] [⟨(.int .i64), N.spec_Mod a0 a1⟩] := said_len (T := tab) (A := A_spec_Mod) tabOk ok_spec_Mod tabOk.follows Try.func108 (by kernel_rfl) (by kernel_rfl) (fun hl => ⟨0, (a_spec_Mod 0 a0 a1).trans (spec_Mod_ok (ρ := Ret) (fun r0 => some [⟨(.int .i64), r0⟩]) a0 a1)⟩)
/-! spec.Hash -/
abbrev N.spec_Hash (l : List Int) : Int := hash l
def spec_Hash_L0 {ρ : Type} (k : Int → Option ρ) (L0 : (List Int) → Int → Int → Option ρ) (v0_0 : (List Int)) (v0_1 : Int) (v0_2 : Int) : Option ρ := (cond (decide (v0_2 < (List.length v0_0 : Int))) (cond (inRange v0_2 (List.length v0_0)) (L0 v0_0 (Int.tmod (IntKind.wrap .i64 ((IntKind.wrap .i64 ((IntKind.wrap .i64 (v0_1 * (1000003 : Int))) + (N.spec_Mod (List.getD v0_0 (Int.toNat v0_2) (0 : Int)) (2147483647 : Int)))) + (13 : Int))) (2147483647 : Int)) (IntKind.wrap .i64 (v0_2 + (1 : Int)))) none) (k v0_1))
def spec_Hash {ρ : Type} (k : Int → Option ρ) (L0 : (List Int) → Int → Int → Option ρ) (a0 : (List Int)) : Option ρ := (L0 a0 (11 : Int) (0 : Int))
theorem spec_Hash_ok {ρ : Type} (k : Int → Option ρ) (a0 : (List Int)) (l_a0 : lnL (fun _ => True) a0) : ∃ n0, ∀ n, n0 ≤ n → ∀ (L0 : Nat → (List Int) → Int → Int → Option ρ) (h0 : ∀ ( m : Nat) (v0_0 : (List Int)) (v0_1 : Int) (v0_2 : Int), L0 (m + 1) v0_0 v0_1 v0_2 = spec_Hash_L0 k (L0 m) v0_0 v0_1 v0_2), spec_Hash k (L0 n) a0 = k (N.spec_Hash a0) := by
  refine ⟨a0.length + 1, fun n hn L0 h0 => ?_⟩
  refine raw_foldl (a := a0) 0 hashStep (k := k) (L := fun m i s => L0 m a0 s i) (R := fun i s c => spec_Hash_L0 k (fun _ s i => c i s) a0 s i) (fun m i s => h0 m a0 s i) (fun _ _ => True) (fun j s c hj _ => ?_) (fun _ _ _ _ => trivial) (fun s c => ?_) hn trivial
  · have : j < big := by have := l_a0.1; omega
    simp [spec_Hash_L0, lt_nat, inRange_nat, hj, wrap_succ this, hashStep]
  · simp [spec_Hash_L0]
def OP_spec_Hash (f_spec_Mod : Int → Int → Int) : Orac := (orcX 108 [.val (.int .i64), .val (.int .i64)] (fun d => true) (fun d => [⟨(.int .i64), f_spec_Mod d.1 d.2.1⟩]) nilO)
def O_spec_Hash : Orac := OP_spec_Hash N.spec_Mod
def spec_Hash_P_L0 {ρ : Type} (f_spec_Mod : Int → Int → Int) (k : Int → Option ρ) (L0 : (List Int) → Int → Int → Option ρ) (v0_0 : (List Int)) (v0_1 : Int) (v0_2 : Int) : Option ρ := (cond (decide (v0_2 < (List.length v0_0 : Int))) (cond (inRange v0_2 (List.length v0_0)) (L0 v0_0 (Int.tmod (IntKind.wrap .i64 ((IntKind.wrap .i64 ((IntKind.wrap .i64 (v0_1 * (1000003 : Int))) + (f_spec_Mod (List.getD v0_0 (Int.toNat v0_2) (0 : Int)) (2147483647 : Int)))) + (13 : Int))) (2147483647 : Int)) (IntKind.wrap .i64 (v0_2 + (1 : Int)))) none) (k v0_1))
def spec_Hash_P {ρ : Type} (f_spec_Mod : Int → Int → Int) (k : Int → Option ρ) (L0 : (List Int) → Int → Int → Option ρ) (a0 : (List Int)) : Option ρ := (L0 a0 (11 : Int) (0 : Int))
theorem ok_spec_Hash : OracOk Try.prog sigs O_spec_Hash := (orcX_ok rfl rfl (fun d g => said_spec_Mod d.1 d.2.1) nilO_ok)
def A_spec_Hash : Ann := fun b => cond (Nat.beq b 0) ⟨[(0, false), (3, false), (4, false)], []⟩ (⟨[], []⟩)
def S_spec_Hash_0 (v0_0 : (List Int)) (v0_1 : Int) (v0_2 : Int) : St := [(kT 0, some (.tv (.v (.slice 3 (.int .i64)) v0_0 .no))), (kT 3, some (.tv (.v (.int .i64) v0_1 .no))), (kT 4, some (.tv (.v (.int .i64) v0_2 .no)))]
noncomputable def L_P_spec_Hash_0 (f_spec_Mod : Int → Int → Int) (n m : Nat) : St → Option Ret := loopOf tab sigs (OP_spec_Hash f_spec_Mod) A_spec_Hash Try.f86 [((.int .i64), .no)] n (fun _ => 0) 0 m
noncomputable def L_spec_Hash_0 (n m : Nat) : St → Option Ret := L_P_spec_Hash_0 N.spec_Mod n m
theorem bP_spec_Hash_0 (f_spec_Mod : Int → Int → Int) (n m : Nat) (v0_0 : (List Int)) (v0_1 : Int) (v0_2 : Int) : L_P_spec_Hash_0 f_spec_Mod n (m + 1) (S_spec_Hash_0 v0_0 v0_1 v0_2) = spec_Hash_P_L0 f_spec_Mod (fun r0 => some [⟨(.int .i64), r0⟩]) (fun v0_0 v0_1 v0_2 => L_P_spec_Hash_0 f_spec_Mod n m (S_spec_Hash_0 v0_0 v0_1 v0_2)) v0_0 v0_1 v0_2 := by kernel_rfl
theorem b_spec_Hash_0 (n m : Nat) (v0_0 : (List Int)) (v0_1 : Int) (v0_2 : Int) : L_spec_Hash_0 n (m + 1) (S_spec_Hash_0 v0_0 v0_1 v0_2) = spec_Hash_L0 (fun r0 => some [⟨(.int .i64), r0⟩]) (fun v0_0 v0_1 v0_2 => L_spec_Hash_0 n m (S_spec_Hash_0 v0_0 v0_1 v0_2)) v0_0 v0_1 v0_2 := bP_spec_Hash_0 N.spec_Mod n m v0_0 v0_1 v0_2
theorem aP_spec_Hash (f_spec_Mod : Int → Int → Int) (n : Nat) (a0 : (List Int)) : absF tab sigs (OP_spec_Hash f_spec_Mod) A_spec_Hash Try.f86 [((.int .i64), .no)] n [.val (.slice 3 (.int .i64)) a0] = spec_Hash_P f_spec_Mod (fun r0 => some [⟨(.int .i64), r0⟩]) (fun v0_0 v0_1 v0_2 => L_P_spec_Hash_0 f_spec_Mod n n (S_spec_Hash_0 v0_0 v0_1 v0_2)) a0 := by kernel_rfl
theorem a_spec_Hash (n : Nat) (a0 : (List Int)) : absF tab sigs O_spec_Hash A_spec_Hash Try.f86 [((.int .i64), .no)] n [.val (.slice 3 (.int .i64)) a0] = spec_Hash (fun r0 => some [⟨(.int .i64), r0⟩]) (fun v0_0 v0_1 v0_2 => L_spec_Hash_0 n n (S_spec_Hash_0 v0_0 v0_1 v0_2)) a0 := aP_spec_Hash N.spec_Mod n a0
theorem said_spec_Hash (a0 : (List Int)) : Said Try.prog sigs_86 86 [.val (.slice 3 (.int .i64)) a0] [⟨(.int .i64), N.spec_Hash a0⟩] := said_len (T := tab) (A := A_spec_Hash) tabOk ok_spec_Hash tabOk.follows Try.func86 (by kernel_rfl) (by kernel_rfl) (fun hl => let ⟨n, hn⟩ := spec_Hash_ok (ρ := Ret) (fun r0 => some [⟨(.int .i64), r0⟩]) a0 hl.1; ⟨n, (a_spec_Hash n a0).trans (hn n (Nat.le_refl n) (fun  m v0_0 v0_1 v0_2 => L_spec_Hash_0 n  m (S_spec_Hash_0 v0_0 v0_1 v0_2)) (fun  m v0_0 v0_1 v0_2 => b_spec_Hash_0 n  m v0_0 v0_1 v0_2))⟩)
/-! spec.LeafOf -/
abbrev G.spec_LeafOf (e : TEntry) : Bool := decide (wE e ≤ 1048576)
abbrev N.spec_LeafOf (e : TEntry) : Int := leafOf e
def spec_LeafOf {ρ : Type} (k : Int → Option ρ) (a0 : TEntry) : Option ρ := (cond (G.spec_EntryInts a0) (cond (fit (List.length [(227 : Int)]) (List.length (N.spec_EntryInts a0))) (k (N.spec_Hash (List.append [(227 : Int)] (N.spec_EntryInts a0)))) none) none)
theorem spec_LeafOf_ok {ρ : Type} (k : Int → Option ρ) (a0 : TEntry) (l_a0 : (True ∧ (True ∧ (True ∧ lnL (fun _ => True) a0.2.2.2)))) (g : G.spec_LeafOf a0 = true) : spec_LeafOf k  a0 = k (N.spec_LeafOf a0) := by
  unfold G.spec_LeafOf at g
  have hw : wE a0 ≤ 1048576 := of_decide_eq_true g
  have f1 : fit 1 (entryInts a0).length = true := fit_of (by rw [entryInts_len]; omega)
  show cond (decide (wE a0 ≤ 1048576)) (cond (fit 1 (entryInts a0).length) _ none) none = _
  rw [g, f1]
  rfl
def OP_spec_LeafOf (f_spec_EntryInts : TEntry → (List Int)) (g_spec_EntryInts : TEntry → Bool) (f_spec_Hash : (List Int) → Int) : Orac := (orcX 86 [.val (.slice 3 (.int .i64))] (fun d => true) (fun d => [⟨(.int .i64), f_spec_Hash d.1⟩]) (orcX 87 [.val (.pair .str (.pair (.int .i64) (.pair (.int .i64) (.slice 9 .str))))] (fun d => g_spec_EntryInts d.1) (fun d => [⟨(.slice 3 (.int .i64)), f_spec_EntryInts d.1⟩]) nilO))
def O_spec_LeafOf : Orac := OP_spec_LeafOf N.spec_EntryInts G.spec_EntryInts N.spec_Hash
def spec_LeafOf_P {ρ : Type} (f_spec_EntryInts : TEntry → (List Int)) (g_spec_EntryInts : TEntry → Bool) (f_spec_Hash : (List Int) → Int) (k : Int → Option ρ) (a0 : TEntry) : Option ρ := (cond (g_spec_EntryInts a0) (cond (fit (List.length [(227 : Int)]) (List.length (f_spec_EntryInts a0))) (k (f_spec_Hash (List.append [(227 : Int)] (f_spec_EntryInts a0)))) none) none)
theorem ok_spec_LeafOf : OracOk Try.prog sigs O_spec_LeafOf := (orcX_ok rfl rfl (fun d g => said_spec_Hash d.1) (orcX_ok rfl rfl (fun d g => said_spec_EntryInts d.1 g) nilO_ok))
def A_spec_LeafOf : Ann := fun b => ⟨[], []⟩
theorem aP_spec_LeafOf (f_spec_EntryInts : TEntry → (List Int)) (g_spec_EntryInts : TEntry → Bool) (f_spec_Hash : (List Int) → Int) (n : Nat) (a0 : TEntry) : absF tab sigs (OP_spec_LeafOf f_spec_EntryInts g_spec_EntryInts f_spec_Hash) A_spec_LeafOf Try.f42 [((.int .i64), .no)] n [.val (.pair .str (.pair (.int .i64) (.pair (.int .i64) (.slice 9 .str)))) a0] = spec_LeafOf_P f_spec_EntryInts g_spec_EntryInts f_spec_Hash (fun r0 => some [⟨(.int .i64), r0⟩])  a0 := by kernel_rfl
theorem a_spec_LeafOf (n : Nat) (a0 : TEntry) : absF tab sigs O_spec_LeafOf A_spec_LeafOf Try.f42 [((.int .i64), .no)] n [.val (.pair .str (.pair (.int .i64) (.pair (.int .i64) (.slice 9 .str)))) a0] = spec_LeafOf (fun r0 => some [⟨(.int .i64), r0⟩])  a0 := aP_spec_LeafOf N.spec_EntryInts G.spec_EntryInts N.spec_Hash n a0
theorem said_spec_LeafOf (a0 : TEntry) (g : G.spec_LeafOf a0 = true) : Said Try.prog sigs_42 42 [.val (.pair .str (.pair (.int .i64) (.pair (.int .i64) (.slice 9 .str)))) a0] [⟨(.int .i64), N.spec_LeafOf a0⟩] := said_len (T := tab) (A := A_spec_LeafOf) tabOk ok_spec_LeafOf tabOk.follows Try.func42 (by kernel_rfl) (by kernel_rfl) (fun hl => ⟨0, (a_spec_LeafOf 0 a0).trans (spec_LeafOf_ok (ρ := Ret) (fun r0 => some [⟨(.int .i64), r0⟩]) a0 hl.1 g)⟩)
/-! spec.LeavesOf -/
abbrev G.spec_LeavesOf (l : List TEntry) : Bool := decide (wEs l ≤ 1048576)
abbrev N.spec_LeavesOf (l : List TEntry) : List Int := l.map leafOf
def spec_LeavesOf_L0 {ρ : Type} (k : (List Int) → Option ρ) (L0 : (List TEntry) → Int → (List Int) → Option ρ) (v0_0 : (List TEntry)) (v0_1 : Int) (v0_2 : (List Int)) : Option ρ := (cond (decide (v0_1 < (List.length v0_0 : Int))) (cond (inRange v0_1 (List.length v0_0)) (cond (G.spec_LeafOf (List.getD v0_0 (Int.toNat v0_1) (ByteArray.empty, ((0 : Int), ((0 : Int), []))))) (cond (fit (List.length v0_2) (List.length [(N.spec_LeafOf (List.getD v0_0 (Int.toNat v0_1) (ByteArray.empty, ((0 : Int), ((0 : Int), [])))))])) (L0 v0_0 (IntKind.wrap .i64 (v0_1 + (1 : Int))) (List.append v0_2 [(N.spec_LeafOf (List.getD v0_0 (Int.toNat v0_1) (ByteArray.empty, ((0 : Int), ((0 : Int), [])))))])) none) none) none) (k v0_2))
def spec_LeavesOf {ρ : Type} (k : (List Int) → Option ρ) (L0 : (List TEntry) → Int → (List Int) → Option ρ) (a0 : (List TEntry)) : Option ρ := (L0 a0 (0 : Int) ([] : (List Int)))
theorem spec_LeavesOf_ok {ρ : Type} (k : (List Int) → Option ρ) (a0 : (List TEntry)) (l_a0 : lnL (fun y => (True ∧ (True ∧ (True ∧ lnL (fun _ => True) y.2.2.2)))) a0) (g : G.spec_LeavesOf a0 = true) : ∃ n0, ∀ n, n0 ≤ n → ∀ (L0 : Nat → (List TEntry) → Int → (List Int) → Option ρ) (h0 : ∀ ( m : Nat) (v0_0 : (List TEntry)) (v0_1 : Int) (v0_2 : (List Int)), L0 (m + 1) v0_0 v0_1 v0_2 = spec_LeavesOf_L0 k (L0 m) v0_0 v0_1 v0_2), spec_LeavesOf k (L0 n) a0 = k (N.spec_LeavesOf a0) := by
  unfold G.spec_LeavesOf at g
  have hw : wEs a0 ≤ 1048576 := of_decide_eq_true g
  have hl : a0.length ≤ 1048576 := by unfold wEs at hw; omega
  refine ⟨a0.length + 1, fun n hn L0 h0 => ?_⟩
  refine raw_map (a := a0) (ByteArray.empty, (0, (0, []))) leafOf 1048576 (k := k) (L := fun m i out => L0 m a0 i out) (R := fun i out c => spec_LeavesOf_L0 k (fun _ i out => c i out) a0 i out) (fun m i s => h0 m a0 i s) (fun j out c hj ho => ?_) (fun out c => ?_) hl hn
  · have hm := wEs_mem (getD_mem (d := (ByteArray.empty, (0, (0, [])))) hj)
    have g2 : decide (wE (a0.getD j (ByteArray.empty, (0, (0, [])))) ≤ 1048576) = true := by simp only [decide_eq_true_eq]; omega
    have e3 : fit out.length 1 = true := fit_of (by omega)
    simp only [spec_LeavesOf_L0, lt_nat, inRange_nat, decide_eq_true hj, cond_true, Int.toNat_natCast, G.spec_LeafOf, g2, List.length_singleton, e3, wrap_succ (j := j) (by unfold big; omega), List.append_eq]
  · simp [spec_LeavesOf_L0]
def OP_spec_LeavesOf (f_spec_LeafOf : TEntry → Int) (g_spec_LeafOf : TEntry → Bool) : Orac := (orcX 42 [.val (.pair .str (.pair (.int .i64) (.pair (.int .i64) (.slice 9 .str))))] (fun d => g_spec_LeafOf d.1) (fun d => [⟨(.int .i64), f_spec_LeafOf d.1⟩]) nilO)
def O_spec_LeavesOf : Orac := OP_spec_LeavesOf N.spec_LeafOf G.spec_LeafOf
def spec_LeavesOf_P_L0 {ρ : Type} (f_spec_LeafOf : TEntry → Int) (g_spec_LeafOf : TEntry → Bool) (k : (List Int) → Option ρ) (L0 : (List TEntry) → Int → (List Int) → Option ρ) (v0_0 : (List TEntry)) (v0_1 : Int) (v0_2 : (List Int)) : Option ρ := (cond (decide (v0_1 < (List.length v0_0 : Int))) (cond (inRange v0_1 (List.length v0_0)) (cond (g_spec_LeafOf (List.getD v0_0 (Int.toNat v0_1) (ByteArray.empty, ((0 : Int), ((0 : Int), []))))) (cond (fit (List.length v0_2) (List.length [(f_spec_LeafOf (List.getD v0_0 (Int.toNat v0_1) (ByteArray.empty, ((0 : Int), ((0 : Int), [])))))])) (L0 v0_0 (IntKind.wrap .i64 (v0_1 + (1 : Int))) (List.append v0_2 [(f_spec_LeafOf (List.getD v0_0 (Int.toNat v0_1) (ByteArray.empty, ((0 : Int), ((0 : Int), [])))))])) none) none) none) (k v0_2))
def spec_LeavesOf_P {ρ : Type} (f_spec_LeafOf : TEntry → Int) (g_spec_LeafOf : TEntry → Bool) (k : (List Int) → Option ρ) (L0 : (List TEntry) → Int → (List Int) → Option ρ) (a0 : (List TEntry)) : Option ρ := (L0 a0 (0 : Int) ([] : (List Int)))
theorem ok_spec_LeavesOf : OracOk Try.prog sigs O_spec_LeavesOf := (orcX_ok rfl rfl (fun d g => said_spec_LeafOf d.1 g) nilO_ok)
def A_spec_LeavesOf : Ann := fun b => cond (Nat.beq b 0) ⟨[(0, false), (3, true), (4, false)], []⟩ (⟨[], []⟩)
def S_spec_LeavesOf_0 (v0_0 : (List TEntry)) (v0_1 : Int) (v0_2 : (List Int)) : St := [(kT 0, some (.tv (.v (.slice 31 (.pair .str (.pair (.int .i64) (.pair (.int .i64) (.slice 9 .str))))) v0_0 .no))), (kT 3, some (.tv (.v (.slice 3 (.int .i64)) [] (.own 24)))), (kT 4, some (.tv (.v (.int .i64) v0_1 .no))), (kR 24, some (.row 3 (.int .i64) v0_2))]
noncomputable def L_P_spec_LeavesOf_0 (f_spec_LeafOf : TEntry → Int) (g_spec_LeafOf : TEntry → Bool) (n m : Nat) : St → Option Ret := loopOf tab sigs (OP_spec_LeavesOf f_spec_LeafOf g_spec_LeafOf) A_spec_LeavesOf Try.f59 [((.slice 3 (.int .i64)), (.own 0))] n (fun _ => 0) 0 m
noncomputable def L_spec_LeavesOf_0 (n m : Nat) : St → Option Ret := L_P_spec_LeavesOf_0 N.spec_LeafOf G.spec_LeafOf n m
theorem bP_spec_LeavesOf_0 (f_spec_LeafOf : TEntry → Int) (g_spec_LeafOf : TEntry → Bool) (n m : Nat) (v0_0 : (List TEntry)) (v0_1 : Int) (v0_2 : (List Int)) : L_P_spec_LeavesOf_0 f_spec_LeafOf g_spec_LeafOf n (m + 1) (S_spec_LeavesOf_0 v0_0 v0_1 v0_2) = spec_LeavesOf_P_L0 f_spec_LeafOf g_spec_LeafOf (fun r0 => some [⟨(.slice 3 (.int .i64)), r0⟩]) (fun v0_0 v0_1 v0_2 => L_P_spec_LeavesOf_0 f_spec_LeafOf g_spec_LeafOf n m (S_spec_LeavesOf_0 v0_0 v0_1 v0_2)) v0_0 v0_1 v0_2 := by kernel_rfl
theorem b_spec_LeavesOf_0 (n m : Nat) (v0_0 : (List TEntry)) (v0_1 : Int) (v0_2 : (List Int)) : L_spec_LeavesOf_0 n (m + 1) (S_spec_LeavesOf_0 v0_0 v0_1 v0_2) = spec_LeavesOf_L0 (fun r0 => some [⟨(.slice 3 (.int .i64)), r0⟩]) (fun v0_0 v0_1 v0_2 => L_spec_LeavesOf_0 n m (S_spec_LeavesOf_0 v0_0 v0_1 v0_2)) v0_0 v0_1 v0_2 := bP_spec_LeavesOf_0 N.spec_LeafOf G.spec_LeafOf n m v0_0 v0_1 v0_2
theorem aP_spec_LeavesOf (f_spec_LeafOf : TEntry → Int) (g_spec_LeafOf : TEntry → Bool) (n : Nat) (a0 : (List TEntry)) : absF tab sigs (OP_spec_LeavesOf f_spec_LeafOf g_spec_LeafOf) A_spec_LeavesOf Try.f59 [((.slice 3 (.int .i64)), (.own 0))] n [.val (.slice 31 (.pair .str (.pair (.int .i64) (.pair (.int .i64) (.slice 9 .str))))) a0] = spec_LeavesOf_P f_spec_LeafOf g_spec_LeafOf (fun r0 => some [⟨(.slice 3 (.int .i64)), r0⟩]) (fun v0_0 v0_1 v0_2 => L_P_spec_LeavesOf_0 f_spec_LeafOf g_spec_LeafOf n n (S_spec_LeavesOf_0 v0_0 v0_1 v0_2)) a0 := by kernel_rfl
theorem a_spec_LeavesOf (n : Nat) (a0 : (List TEntry)) : absF tab sigs O_spec_LeavesOf A_spec_LeavesOf Try.f59 [((.slice 3 (.int .i64)), (.own 0))] n [.val (.slice 31 (.pair .str (.pair (.int .i64) (.pair (.int .i64) (.slice 9 .str))))) a0] = spec_LeavesOf (fun r0 => some [⟨(.slice 3 (.int .i64)), r0⟩]) (fun v0_0 v0_1 v0_2 => L_spec_LeavesOf_0 n n (S_spec_LeavesOf_0 v0_0 v0_1 v0_2)) a0 := aP_spec_LeavesOf N.spec_LeafOf G.spec_LeafOf n a0
theorem said_spec_LeavesOf (a0 : (List TEntry)) (g : G.spec_LeavesOf a0 = true) : Said Try.prog sigs_59 59 [.val (.slice 31 (.pair .str (.pair (.int .i64) (.pair (.int .i64) (.slice 9 .str))))) a0] [⟨(.slice 3 (.int .i64)), N.spec_LeavesOf a0⟩] := said_len (T := tab) (A := A_spec_LeavesOf) tabOk ok_spec_LeavesOf tabOk.follows Try.func59 (by kernel_rfl) (by kernel_rfl) (fun hl => let ⟨n, hn⟩ := spec_LeavesOf_ok (ρ := Ret) (fun r0 => some [⟨(.slice 3 (.int .i64)), r0⟩]) a0 hl.1 g; ⟨n, (a_spec_LeavesOf n a0).trans (hn n (Nat.le_refl n) (fun  m v0_0 v0_1 v0_2 => L_spec_LeavesOf_0 n  m (S_spec_LeavesOf_0 v0_0 v0_1 v0_2)) (fun  m v0_0 v0_1 v0_2 => b_spec_LeavesOf_0 n  m v0_0 v0_1 v0_2))⟩)
/-! spec.NodeOf -/
abbrev N.spec_NodeOf (a b : Int) : Int := nodeOf a b
def spec_NodeOf {ρ : Type} (k : Int → Option ρ) (a0 : Int) (a1 : Int) : Option ρ := (k (N.spec_Hash [(229 : Int), a0, a1]))
theorem spec_NodeOf_ok {ρ : Type} (k : Int → Option ρ) (a0 : Int) (a1 : Int) : spec_NodeOf k  a0 a1 = k (N.spec_NodeOf a0 a1) := by
  rfl
def OP_spec_NodeOf (f_spec_Hash : (List Int) → Int) : Orac := (orcX 86 [.val (.slice 3 (.int .i64))] (fun d => true) (fun d => [⟨(.int .i64), f_spec_Hash d.1⟩]) nilO)
def O_spec_NodeOf : Orac := OP_spec_NodeOf N.spec_Hash
def spec_NodeOf_P {ρ : Type} (f_spec_Hash : (List Int) → Int) (k : Int → Option ρ) (a0 : Int) (a1 : Int) : Option ρ := (k (f_spec_Hash [(229 : Int), a0, a1]))
theorem ok_spec_NodeOf : OracOk Try.prog sigs O_spec_NodeOf := (orcX_ok rfl rfl (fun d g => said_spec_Hash d.1) nilO_ok)
def A_spec_NodeOf : Ann := fun b => ⟨[], []⟩
theorem aP_spec_NodeOf (f_spec_Hash : (List Int) → Int) (n : Nat) (a0 : Int) (a1 : Int) : absF tab sigs (OP_spec_NodeOf f_spec_Hash) A_spec_NodeOf Try.f85 [((.int .i64), .no)] n [.val (.int .i64) a0, .val (.int .i64) a1] = spec_NodeOf_P f_spec_Hash (fun r0 => some [⟨(.int .i64), r0⟩])  a0 a1 := by kernel_rfl
theorem a_spec_NodeOf (n : Nat) (a0 : Int) (a1 : Int) : absF tab sigs O_spec_NodeOf A_spec_NodeOf Try.f85 [((.int .i64), .no)] n [.val (.int .i64) a0, .val (.int .i64) a1] = spec_NodeOf (fun r0 => some [⟨(.int .i64), r0⟩])  a0 a1 := aP_spec_NodeOf N.spec_Hash n a0 a1
theorem said_spec_NodeOf (a0 : Int) (a1 : Int) : Said Try.prog sigs_85 85 [.val (.int .i64) a0, .val (.int .i64) a1] [⟨(.int .i64), N.spec_NodeOf a0 a1⟩] := said_len (T := tab) (A := A_spec_NodeOf) tabOk ok_spec_NodeOf tabOk.follows Try.func85 (by kernel_rfl) (by kernel_rfl) (fun hl => ⟨0, (a_spec_NodeOf 0 a0 a1).trans (spec_NodeOf_ok (ρ := Ret) (fun r0 => some [⟨(.int .i64), r0⟩]) a0 a1)⟩)
/-! spec.l10Up -/
abbrev G.spec_l10Up (l : List Int) : Bool := decide (l.length ≤ 1048576)
abbrev N.spec_l10Up (l : List Int) : List Int := up l
def spec_l10Up_L0 {ρ : Type} (k : (List Int) → Option ρ) (L0 : (List Int) → Int → (List Int) → Option ρ) (v0_0 : (List Int)) (v0_1 : Int) (v0_2 : (List Int)) : Option ρ := (cond (decide (v0_1 < (List.length v0_0 : Int))) (cond (decide ((IntKind.wrap .i64 (v0_1 + (1 : Int))) < (List.length v0_0 : Int))) (cond (inRange v0_1 (List.length v0_0)) (cond (inRange (IntKind.wrap .i64 (v0_1 + (1 : Int))) (List.length v0_0)) (cond (fit (List.length v0_2) (List.length [(N.spec_NodeOf (List.getD v0_0 (Int.toNat v0_1) (0 : Int)) (List.getD v0_0 (Int.toNat (IntKind.wrap .i64 (v0_1 + (1 : Int)))) (0 : Int)))])) (L0 v0_0 (IntKind.wrap .i64 (v0_1 + (2 : Int))) (List.append v0_2 [(N.spec_NodeOf (List.getD v0_0 (Int.toNat v0_1) (0 : Int)) (List.getD v0_0 (Int.toNat (IntKind.wrap .i64 (v0_1 + (1 : Int)))) (0 : Int)))])) none) none) none) (cond (inRange v0_1 (List.length v0_0)) (cond (fit (List.length v0_2) (List.length [(List.getD v0_0 (Int.toNat v0_1) (0 : Int))])) (L0 v0_0 (IntKind.wrap .i64 (v0_1 + (2 : Int))) (List.append v0_2 [(List.getD v0_0 (Int.toNat v0_1) (0 : Int))])) none) none)) (k v0_2))
def spec_l10Up {ρ : Type} (k : (List Int) → Option ρ) (L0 : (List Int) → Int → (List Int) → Option ρ) (a0 : (List Int)) : Option ρ := (L0 a0 (0 : Int) ([] : (List Int)))
theorem spec_l10Up_ok {ρ : Type} (k : (List Int) → Option ρ) (a0 : (List Int)) (l_a0 : lnL (fun _ => True) a0) (g : G.spec_l10Up a0 = true) : ∃ n0, ∀ n, n0 ≤ n → ∀ (L0 : Nat → (List Int) → Int → (List Int) → Option ρ) (h0 : ∀ ( m : Nat) (v0_0 : (List Int)) (v0_1 : Int) (v0_2 : (List Int)), L0 (m + 1) v0_0 v0_1 v0_2 = spec_l10Up_L0 k (L0 m) v0_0 v0_1 v0_2), spec_l10Up k (L0 n) a0 = k (N.spec_l10Up a0) := by
  unfold G.spec_l10Up at g
  have hlen : a0.length ≤ 1048576 := of_decide_eq_true g
  refine ⟨a0.length + 1, fun n hn L0 h0 => ?_⟩
  refine (raw_meas (σ := Int × List Int) (L := fun m s => L0 m a0 s.1 s.2) (R := fun s c => spec_l10Up_L0 k (fun _ i out => c (i, out)) a0 s.1 s.2) (fun m s => h0 m a0 s.1 s.2) (fun s => 0 ≤ s.1 ∧ s.2.length + s.1 ≤ 2097160 ∧ s.1 ≤ a0.length + 1 ∧ s.2.length ≤ s.1) (fun s => a0.length - s.1.toNat) (fun s => k (s.2 ++ up (a0.drop s.1.toNat))) (fun s c hI hc => ?_) n (0, []) ⟨by simp, by simp, by simp; omega, by simp⟩ (by simp; omega)).trans (by simp)
  obtain ⟨j, out⟩ := s
  obtain ⟨hj0, hj1, hj2, hj3⟩ := hI
  dsimp only at hj0 hj1 hj2 hj3 hc ⊢
  obtain ⟨j, rfl⟩ := Int.eq_ofNat_of_zero_le hj0
  rw [Int.toNat_natCast]
  by_cases h : j < a0.length
  · have e1 : IntKind.wrap .i64 ((j : Int) + 2) = ((j + 2 : Nat) : Int) := by rw [wrap_id (by omega) (by omega)]; omega
    have e2 : IntKind.wrap .i64 ((j : Int) + 1) = ((j + 1 : Nat) : Int) := wrap_succ (by unfold big; omega)
    have e3 : fit out.length 1 = true := fit_of (by omega)
    by_cases h2 : j + 1 < a0.length
    · have hd : a0.drop j = a0.getD j 0 :: a0.getD (j + 1) 0 :: a0.drop (j + 2) := by rw [drop_cons 0 h, drop_cons 0 h2]
      have := hc (((j + 2 : Nat) : Int), out ++ [nodeOf (a0.getD j 0) (a0.getD (j + 1) 0)]) ⟨by simp; omega, by simp; omega, by simp; omega, by simp; omega⟩ (by simp; omega)
      dsimp only at this
      rw [Int.toNat_natCast] at this
      simp only [spec_l10Up_L0, e1, e2, lt_nat, inRange_nat, decide_eq_true h, decide_eq_true h2, cond_true, Int.toNat_natCast, List.length_singleton, Int.natCast_one, e3, List.append_eq, this, hd]
      simp [up]
    · have hd : a0.drop j = [a0.getD j 0] := by rw [drop_cons 0 h, List.drop_of_length_le (by omega)]
      have := hc (((j + 2 : Nat) : Int), out ++ [a0.getD j 0]) ⟨by simp; omega, by simp; omega, by simp; omega, by simp; omega⟩ (by simp; omega)
      dsimp only at this
      rw [Int.toNat_natCast, List.drop_of_length_le (by omega)] at this
      simp only [spec_l10Up_L0, e1, e2, lt_nat, inRange_nat, decide_eq_true h, decide_eq_false h2, cond_true, cond_false, Int.toNat_natCast, List.length_singleton, Int.natCast_one, e3, List.append_eq, this, hd]
      simp [up]
  · simp [spec_l10Up_L0, lt_nat, h, List.drop_of_length_le (Nat.not_lt.1 h), up]
def OP_spec_l10Up (f_spec_NodeOf : Int → Int → Int) : Orac := (orcX 85 [.val (.int .i64), .val (.int .i64)] (fun d => true) (fun d => [⟨(.int .i64), f_spec_NodeOf d.1 d.2.1⟩]) nilO)
def O_spec_l10Up : Orac := OP_spec_l10Up N.spec_NodeOf
def spec_l10Up_P_L0 {ρ : Type} (f_spec_NodeOf : Int → Int → Int) (k : (List Int) → Option ρ) (L0 : (List Int) → Int → (List Int) → Option ρ) (v0_0 : (List Int)) (v0_1 : Int) (v0_2 : (List Int)) : Option ρ := (cond (decide (v0_1 < (List.length v0_0 : Int))) (cond (decide ((IntKind.wrap .i64 (v0_1 + (1 : Int))) < (List.length v0_0 : Int))) (cond (inRange v0_1 (List.length v0_0)) (cond (inRange (IntKind.wrap .i64 (v0_1 + (1 : Int))) (List.length v0_0)) (cond (fit (List.length v0_2) (List.length [(f_spec_NodeOf (List.getD v0_0 (Int.toNat v0_1) (0 : Int)) (List.getD v0_0 (Int.toNat (IntKind.wrap .i64 (v0_1 + (1 : Int)))) (0 : Int)))])) (L0 v0_0 (IntKind.wrap .i64 (v0_1 + (2 : Int))) (List.append v0_2 [(f_spec_NodeOf (List.getD v0_0 (Int.toNat v0_1) (0 : Int)) (List.getD v0_0 (Int.toNat (IntKind.wrap .i64 (v0_1 + (1 : Int)))) (0 : Int)))])) none) none) none) (cond (inRange v0_1 (List.length v0_0)) (cond (fit (List.length v0_2) (List.length [(List.getD v0_0 (Int.toNat v0_1) (0 : Int))])) (L0 v0_0 (IntKind.wrap .i64 (v0_1 + (2 : Int))) (List.append v0_2 [(List.getD v0_0 (Int.toNat v0_1) (0 : Int))])) none) none)) (k v0_2))
def spec_l10Up_P {ρ : Type} (f_spec_NodeOf : Int → Int → Int) (k : (List Int) → Option ρ) (L0 : (List Int) → Int → (List Int) → Option ρ) (a0 : (List Int)) : Option ρ := (L0 a0 (0 : Int) ([] : (List Int)))
theorem ok_spec_l10Up : OracOk Try.prog sigs O_spec_l10Up := (orcX_ok rfl rfl (fun d g => said_spec_NodeOf d.1 d.2.1) nilO_ok)
def A_spec_l10Up : Ann := fun b => cond (Nat.beq b 0) ⟨[(0, false), (3, true), (4, false)], []⟩ (⟨[], []⟩)
def S_spec_l10Up_0 (v0_0 : (List Int)) (v0_1 : Int) (v0_2 : (List Int)) : St := [(kT 0, some (.tv (.v (.slice 3 (.int .i64)) v0_0 .no))), (kT 3, some (.tv (.v (.slice 3 (.int .i64)) [] (.own 24)))), (kT 4, some (.tv (.v (.int .i64) v0_1 .no))), (kR 24, some (.row 3 (.int .i64) v0_2))]
noncomputable def L_P_spec_l10Up_0 (f_spec_NodeOf : Int → Int → Int) (n m : Nat) : St → Option Ret := loopOf tab sigs (OP_spec_l10Up f_spec_NodeOf) A_spec_l10Up Try.f97 [((.slice 3 (.int .i64)), (.own 0))] n (fun _ => 0) 0 m
noncomputable def L_spec_l10Up_0 (n m : Nat) : St → Option Ret := L_P_spec_l10Up_0 N.spec_NodeOf n m
theorem bP_spec_l10Up_0 (f_spec_NodeOf : Int → Int → Int) (n m : Nat) (v0_0 : (List Int)) (v0_1 : Int) (v0_2 : (List Int)) : L_P_spec_l10Up_0 f_spec_NodeOf n (m + 1) (S_spec_l10Up_0 v0_0 v0_1 v0_2) = spec_l10Up_P_L0 f_spec_NodeOf (fun r0 => some [⟨(.slice 3 (.int .i64)), r0⟩]) (fun v0_0 v0_1 v0_2 => L_P_spec_l10Up_0 f_spec_NodeOf n m (S_spec_l10Up_0 v0_0 v0_1 v0_2)) v0_0 v0_1 v0_2 := by kernel_rfl
theorem b_spec_l10Up_0 (n m : Nat) (v0_0 : (List Int)) (v0_1 : Int) (v0_2 : (List Int)) : L_spec_l10Up_0 n (m + 1) (S_spec_l10Up_0 v0_0 v0_1 v0_2) = spec_l10Up_L0 (fun r0 => some [⟨(.slice 3 (.int .i64)), r0⟩]) (fun v0_0 v0_1 v0_2 => L_spec_l10Up_0 n m (S_spec_l10Up_0 v0_0 v0_1 v0_2)) v0_0 v0_1 v0_2 := bP_spec_l10Up_0 N.spec_NodeOf n m v0_0 v0_1 v0_2
theorem aP_spec_l10Up (f_spec_NodeOf : Int → Int → Int) (n : Nat) (a0 : (List Int)) : absF tab sigs (OP_spec_l10Up f_spec_NodeOf) A_spec_l10Up Try.f97 [((.slice 3 (.int .i64)), (.own 0))] n [.val (.slice 3 (.int .i64)) a0] = spec_l10Up_P f_spec_NodeOf (fun r0 => some [⟨(.slice 3 (.int .i64)), r0⟩]) (fun v0_0 v0_1 v0_2 => L_P_spec_l10Up_0 f_spec_NodeOf n n (S_spec_l10Up_0 v0_0 v0_1 v0_2)) a0 := by kernel_rfl
theorem a_spec_l10Up (n : Nat) (a0 : (List Int)) : absF tab sigs O_spec_l10Up A_spec_l10Up Try.f97 [((.slice 3 (.int .i64)), (.own 0))] n [.val (.slice 3 (.int .i64)) a0] = spec_l10Up (fun r0 => some [⟨(.slice 3 (.int .i64)), r0⟩]) (fun v0_0 v0_1 v0_2 => L_spec_l10Up_0 n n (S_spec_l10Up_0 v0_0 v0_1 v0_2)) a0 := aP_spec_l10Up N.spec_NodeOf n a0
theorem said_spec_l10Up (a0 : (List Int)) (g : G.spec_l10Up a0 = true) : Said Try.prog sigs_97 97 [.val (.slice 3 (.int .i64)) a0] [⟨(.slice 3 (.int .i64)), N.spec_l10Up a0⟩] := said_len (T := tab) (A := A_spec_l10Up) tabOk ok_spec_l10Up tabOk.follows Try.func97 (by kernel_rfl) (by kernel_rfl) (fun hl => let ⟨n, hn⟩ := spec_l10Up_ok (ρ := Ret) (fun r0 => some [⟨(.slice 3 (.int .i64)), r0⟩]) a0 hl.1 g; ⟨n, (a_spec_l10Up n a0).trans (hn n (Nat.le_refl n) (fun  m v0_0 v0_1 v0_2 => L_spec_l10Up_0 n  m (S_spec_l10Up_0 v0_0 v0_1 v0_2)) (fun  m v0_0 v0_1 v0_2 => b_spec_l10Up_0 n  m v0_0 v0_1 v0_2))⟩)
/-! spec.PathFor -/
abbrev G.spec_PathFor (l : List Int) (i : Int) : Bool := decide (l.length ≤ 1048576)
abbrev N.spec_PathFor (l : List Int) (i : Int) : List Int := pathFor l i
def spec_PathFor_L0 {ρ : Type} (k : (List Int) → Option ρ) (L0 : Int → (List Int) → (List Int) → Option ρ) (v0_0 : Int) (v0_1 : (List Int)) (v0_2 : (List Int)) : Option ρ := (cond (decide ((List.length v0_1 : Int) > (1 : Int))) (cond (decide ((IntKind.wrap .i64 ((IntKind.wrap .i64 (v0_0 + (1 : Int))) - (IntKind.wrap .i64 ((2 : Int) * (Int.tmod v0_0 (2 : Int)))))) < (List.length v0_1 : Int))) (cond (inRange (IntKind.wrap .i64 ((IntKind.wrap .i64 (v0_0 + (1 : Int))) - (IntKind.wrap .i64 ((2 : Int) * (Int.tmod v0_0 (2 : Int)))))) (List.length v0_1)) (cond (fit (List.length v0_2) (List.length [(List.getD v0_1 (Int.toNat (IntKind.wrap .i64 ((IntKind.wrap .i64 (v0_0 + (1 : Int))) - (IntKind.wrap .i64 ((2 : Int) * (Int.tmod v0_0 (2 : Int))))))) (0 : Int))])) (cond (G.spec_l10Up v0_1) (L0 (IntKind.wrap .i64 (Int.tdiv v0_0 (2 : Int))) (N.spec_l10Up v0_1) (List.append v0_2 [(List.getD v0_1 (Int.toNat (IntKind.wrap .i64 ((IntKind.wrap .i64 (v0_0 + (1 : Int))) - (IntKind.wrap .i64 ((2 : Int) * (Int.tmod v0_0 (2 : Int))))))) (0 : Int))])) none) none) none) (cond (G.spec_l10Up v0_1) (L0 (IntKind.wrap .i64 (Int.tdiv v0_0 (2 : Int))) (N.spec_l10Up v0_1) v0_2) none)) (k v0_2))
def spec_PathFor {ρ : Type} (k : (List Int) → Option ρ) (L0 : Int → (List Int) → (List Int) → Option ρ) (a0 : (List Int)) (a1 : Int) : Option ρ := (cond (!(N.spec_l1In a1 (0 : Int) (IntKind.wrap .i64 ((List.length a0 : Int) - (1 : Int))))) (k ([] : (List Int))) (L0 a1 a0 ([] : (List Int))))
theorem spec_PathFor_ok {ρ : Type} (k : (List Int) → Option ρ) (a0 : (List Int)) (a1 : Int) (l_a0 : lnL (fun _ => True) a0) (g : G.spec_PathFor a0 a1 = true) : ∃ n0, ∀ n, n0 ≤ n → ∀ (L0 : Nat → Int → (List Int) → (List Int) → Option ρ) (h0 : ∀ ( m : Nat) (v0_0 : Int) (v0_1 : (List Int)) (v0_2 : (List Int)), L0 (m + 1) v0_0 v0_1 v0_2 = spec_PathFor_L0 k (L0 m) v0_0 v0_1 v0_2), spec_PathFor k (L0 n) a0 a1 = k (N.spec_PathFor a0 a1) := by
  unfold G.spec_PathFor at g
  have hlen : a0.length ≤ 1048576 := of_decide_eq_true g
  refine ⟨a0.length + 1, fun n hn L0 h0 => ?_⟩
  show spec_PathFor k (L0 n) a0 a1 = k (pathFor a0 a1)
  unfold spec_PathFor pathFor
  dsimp only [N.spec_l1In]
  rw [wrap_id (n := (a0.length : Int) - 1) (by omega) (by omega)]
  cases hi1 : inR a1 0 ((a0.length : Int) - 1) with
  | false => rfl
  | true =>
    have hi2 : 0 ≤ a1 ∧ a1 ≤ (a0.length : Int) - 1 := by simpa [inR] using hi1
    show L0 n a1 a0 [] = k (pathN a0.length a1.toNat a0)
    refine (raw_meas (σ := Int × List Int × List Int) (L := fun m s => L0 m s.1 s.2.1 s.2.2) (R := fun s c => spec_PathFor_L0 k (fun i l o => c (i, l, o)) s.1 s.2.1 s.2.2)
      (fun m s => h0 m _ _ _) (fun s => 0 ≤ s.1 ∧ s.1 < s.2.1.length ∧ s.2.2.length + s.2.1.length ≤ 1048576) (fun s => s.2.1.length) (fun s => k (s.2.2 ++ pathN s.2.1.length s.1.toNat s.2.1)) (fun s c hI hc => ?_) n (a1, a0, []) ⟨hi2.1, by dsimp only; omega, by simp; omega⟩ (by dsimp only; omega)).trans (by simp)
    obtain ⟨i, l, o⟩ := s
    obtain ⟨b0, b1, b2⟩ := hI
    dsimp only at b0 b1 b2 hc ⊢
    obtain ⟨i, rfl⟩ := Int.eq_ofNat_of_zero_le b0
    simp only [Int.toNat_natCast] at hc ⊢
    by_cases h1 : 1 < l.length
    · obtain ⟨f, hf⟩ : ∃ f, l.length = f + 1 := ⟨l.length - 1, by omega⟩
      have hu := up_len l
      have e1 : decide ((l.length : Int) > 1) = true := by simp; omega
      have hx : IntKind.wrap .i64 (IntKind.wrap .i64 ((i : Int) + 1) - IntKind.wrap .i64 (2 * Int.tmod (i : Int) 2)) = ((sib i : Nat) : Int) := by
        rw [tmod2, wrap_succ (by unfold big; omega), wrap_id (n := 2 * ((i % 2 : Nat) : Int)) (by omega) (by omega), wrap_id (by omega) (by omega)]
        unfold sib
        split <;> omega
      have g1 : decide (l.length ≤ 1048576) = true := by simp; omega
      have step : ∀ o', o'.length ≤ o.length + 1 → c (((i / 2 : Nat) : Int), up l, o') = k (o' ++ pathN f (i / 2) (up l)) := by
        intro o' ho'
        have := hc (((i / 2 : Nat) : Int), up l, o') ⟨by simp; omega, by simp; omega, by simp; omega⟩ (by simp; omega)
        simp only [Int.toNat_natCast] at this
        rw [this, pathN_more _ f _ _ (by omega) (by omega)]
      rw [hf]
      unfold pathN
      rw [decide_eq_true h1]
      by_cases hs : sib i < l.length
      · have e3 : fit o.length 1 = true := fit_of (by omega)
        simp only [spec_PathFor_L0, e1, hx, lt_nat, inRange_nat, decide_eq_true hs, cond_true, Int.toNat_natCast, List.length_singleton, e3, List.append_eq, tdiv2 (i := i) (by omega), G.spec_l10Up, g1, N.spec_l10Up]
        rw [step _ (by simp)]
        simp
      · simp only [spec_PathFor_L0, e1, hx, lt_nat, inRange_nat, decide_eq_false hs, cond_true, cond_false, tdiv2 (i := i) (by omega), G.spec_l10Up, g1, N.spec_l10Up]
        rw [step _ (by omega)]
        simp
    · have e1 : decide ((l.length : Int) > 1) = false := by simp; omega
      obtain ⟨f, hf⟩ : ∃ f, l.length = f + 1 := ⟨l.length - 1, by omega⟩
      rw [hf]
      unfold pathN
      rw [decide_eq_false h1]
      simp [spec_PathFor_L0, e1]
def OP_spec_PathFor (f_spec_l1In : Int → Int → Int → Bool) (f_spec_l10Up : (List Int) → (List Int)) (g_spec_l10Up : (List Int) → Bool) : Orac := (orcX 97 [.val (.slice 3 (.int .i64))] (fun d => g_spec_l10Up d.1) (fun d => [⟨(.slice 3 (.int .i64)), f_spec_l10Up d.1⟩]) (orcX 68 [.val (.int .i64), .val (.int .i64), .val (.int .i64)] (fun d => true) (fun d => [⟨.bool, f_spec_l1In d.1 d.2.1 d.2.2.1⟩]) nilO))
def O_spec_PathFor : Orac := OP_spec_PathFor N.spec_l1In N.spec_l10Up G.spec_l10Up
def spec_PathFor_P_L0 {ρ : Type} (f_spec_l1In : Int → Int → Int → Bool) (f_spec_l10Up : (List Int) → (List Int)) (g_spec_l10Up : (List Int) → Bool) (k : (List Int) → Option ρ) (L0 : Int → (List Int) → (List Int) → Option ρ) (v0_0 : Int) (v0_1 : (List Int)) (v0_2 : (List Int)) : Option ρ := (cond (decide ((List.length v0_1 : Int) > (1 : Int))) (cond (decide ((IntKind.wrap .i64 ((IntKind.wrap .i64 (v0_0 + (1 : Int))) - (IntKind.wrap .i64 ((2 : Int) * (Int.tmod v0_0 (2 : Int)))))) < (List.length v0_1 : Int))) (cond (inRange (IntKind.wrap .i64 ((IntKind.wrap .i64 (v0_0 + (1 : Int))) - (IntKind.wrap .i64 ((2 : Int) * (Int.tmod v0_0 (2 : Int)))))) (List.length v0_1)) (cond (fit (List.length v0_2) (List.length [(List.getD v0_1 (Int.toNat (IntKind.wrap .i64 ((IntKind.wrap .i64 (v0_0 + (1 : Int))) - (IntKind.wrap .i64 ((2 : Int) * (Int.tmod v0_0 (2 : Int))))))) (0 : Int))])) (cond (g_spec_l10Up v0_1) (L0 (IntKind.wrap .i64 (Int.tdiv v0_0 (2 : Int))) (f_spec_l10Up v0_1) (List.append v0_2 [(List.getD v0_1 (Int.toNat (IntKind.wrap .i64 ((IntKind.wrap .i64 (v0_0 + (1 : Int))) - (IntKind.wrap .i64 ((2 : Int) * (Int.tmod v0_0 (2 : Int))))))) (0 : Int))])) none) none) none) (cond (g_spec_l10Up v0_1) (L0 (IntKind.wrap .i64 (Int.tdiv v0_0 (2 : Int))) (f_spec_l10Up v0_1) v0_2) none)) (k v0_2))
def spec_PathFor_P {ρ : Type} (f_spec_l1In : Int → Int → Int → Bool) (f_spec_l10Up : (List Int) → (List Int)) (g_spec_l10Up : (List Int) → Bool) (k : (List Int) → Option ρ) (L0 : Int → (List Int) → (List Int) → Option ρ) (a0 : (List Int)) (a1 : Int) : Option ρ := (cond (!(f_spec_l1In a1 (0 : Int) (IntKind.wrap .i64 ((List.length a0 : Int) - (1 : Int))))) (k ([] : (List Int))) (L0 a1 a0 ([] : (List Int))))
theorem ok_spec_PathFor : OracOk Try.prog sigs O_spec_PathFor := (orcX_ok rfl rfl (fun d g => said_spec_l10Up d.1 g) (orcX_ok rfl rfl (fun d g => said_spec_l1In d.1 d.2.1 d.2.2.1) nilO_ok))
def A_spec_PathFor : Ann := fun b => cond (Nat.beq b 0) ⟨[(1, false), (5, true), (6, false)], []⟩ (⟨[], []⟩)
def S_spec_PathFor_0 (v0_0 : Int) (v0_1 : (List Int)) (v0_2 : (List Int)) : St := [(kT 1, some (.tv (.v (.int .i64) v0_0 .no))), (kT 5, some (.tv (.v (.slice 3 (.int .i64)) [] (.own 40)))), (kT 6, some (.tv (.v (.slice 3 (.int .i64)) v0_1 .no))), (kR 40, some (.row 3 (.int .i64) v0_2))]
noncomputable def L_P_spec_PathFor_0 (f_spec_l1In : Int → Int → Int → Bool) (f_spec_l10Up : (List Int) → (List Int)) (g_spec_l10Up : (List Int) → Bool) (n m : Nat) : St → Option Ret := loopOf tab sigs (OP_spec_PathFor f_spec_l1In f_spec_l10Up g_spec_l10Up) A_spec_PathFor Try.f58 [((.slice 3 (.int .i64)), (.own 0))] n (fun _ => 0) 0 m
noncomputable def L_spec_PathFor_0 (n m : Nat) : St → Option Ret := L_P_spec_PathFor_0 N.spec_l1In N.spec_l10Up G.spec_l10Up n m
theorem bP_spec_PathFor_0 (f_spec_l1In : Int → Int → Int → Bool) (f_spec_l10Up : (List Int) → (List Int)) (g_spec_l10Up : (List Int) → Bool) (n m : Nat) (v0_0 : Int) (v0_1 : (List Int)) (v0_2 : (List Int)) : L_P_spec_PathFor_0 f_spec_l1In f_spec_l10Up g_spec_l10Up n (m + 1) (S_spec_PathFor_0 v0_0 v0_1 v0_2) = spec_PathFor_P_L0 f_spec_l1In f_spec_l10Up g_spec_l10Up (fun r0 => some [⟨(.slice 3 (.int .i64)), r0⟩]) (fun v0_0 v0_1 v0_2 => L_P_spec_PathFor_0 f_spec_l1In f_spec_l10Up g_spec_l10Up n m (S_spec_PathFor_0 v0_0 v0_1 v0_2)) v0_0 v0_1 v0_2 := by kernel_rfl
theorem b_spec_PathFor_0 (n m : Nat) (v0_0 : Int) (v0_1 : (List Int)) (v0_2 : (List Int)) : L_spec_PathFor_0 n (m + 1) (S_spec_PathFor_0 v0_0 v0_1 v0_2) = spec_PathFor_L0 (fun r0 => some [⟨(.slice 3 (.int .i64)), r0⟩]) (fun v0_0 v0_1 v0_2 => L_spec_PathFor_0 n m (S_spec_PathFor_0 v0_0 v0_1 v0_2)) v0_0 v0_1 v0_2 := bP_spec_PathFor_0 N.spec_l1In N.spec_l10Up G.spec_l10Up n m v0_0 v0_1 v0_2
theorem aP_spec_PathFor (f_spec_l1In : Int → Int → Int → Bool) (f_spec_l10Up : (List Int) → (List Int)) (g_spec_l10Up : (List Int) → Bool) (n : Nat) (a0 : (List Int)) (a1 : Int) : absF tab sigs (OP_spec_PathFor f_spec_l1In f_spec_l10Up g_spec_l10Up) A_spec_PathFor Try.f58 [((.slice 3 (.int .i64)), (.own 0))] n [.val (.slice 3 (.int .i64)) a0, .val (.int .i64) a1] = spec_PathFor_P f_spec_l1In f_spec_l10Up g_spec_l10Up (fun r0 => some [⟨(.slice 3 (.int .i64)), r0⟩]) (fun v0_0 v0_1 v0_2 => L_P_spec_PathFor_0 f_spec_l1In f_spec_l10Up g_spec_l10Up n n (S_spec_PathFor_0 v0_0 v0_1 v0_2)) a0 a1 := by kernel_rfl
theorem a_spec_PathFor (n : Nat) (a0 : (List Int)) (a1 : Int) : absF tab sigs O_spec_PathFor A_spec_PathFor Try.f58 [((.slice 3 (.int .i64)), (.own 0))] n [.val (.slice 3 (.int .i64)) a0, .val (.int .i64) a1] = spec_PathFor (fun r0 => some [⟨(.slice 3 (.int .i64)), r0⟩]) (fun v0_0 v0_1 v0_2 => L_spec_PathFor_0 n n (S_spec_PathFor_0 v0_0 v0_1 v0_2)) a0 a1 := aP_spec_PathFor N.spec_l1In N.spec_l10Up G.spec_l10Up n a0 a1
theorem said_spec_PathFor (a0 : (List Int)) (a1 : Int) (g : G.spec_PathFor a0 a1 = true) : Said Try.prog sigs_58 58 [.val (.slice 3 (.int .i64)) a0, .val (.int .i64) a1] [⟨(.slice 3 (.int .i64)), N.spec_PathFor a0 a1⟩] := said_len (T := tab) (A := A_spec_PathFor) tabOk ok_spec_PathFor tabOk.follows Try.func58 (by kernel_rfl) (by kernel_rfl) (fun hl => let ⟨n, hn⟩ := spec_PathFor_ok (ρ := Ret) (fun r0 => some [⟨(.slice 3 (.int .i64)), r0⟩]) a0 a1 hl.1 g; ⟨n, (a_spec_PathFor n a0 a1).trans (hn n (Nat.le_refl n) (fun  m v0_0 v0_1 v0_2 => L_spec_PathFor_0 n  m (S_spec_PathFor_0 v0_0 v0_1 v0_2)) (fun  m v0_0 v0_1 v0_2 => b_spec_PathFor_0 n  m v0_0 v0_1 v0_2))⟩)
end Go.Proofs.Ythegggkfngnehaa.Ref
