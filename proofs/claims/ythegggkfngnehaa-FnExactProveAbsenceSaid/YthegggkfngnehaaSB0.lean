/- Functions of the program: what each computes, and that it does so.
   Conditions: as each theorem states. -/
import Derived.Test.YthegggkfngnehaaSA
set_option linter.unusedVariables false
set_option linter.unusedSimpArgs false
set_option maxRecDepth 100000
namespace Go.Proofs.Ythegggkfngnehaa.Ref
open Go.RowKit Go.Proofs.YthegggkfngnehaaW.PrintWords Go.Proofs.YthegggkfngnehaaW.PrintLast
/-! laws.szStringS -/
abbrev G.laws_szStringS (a : List ByteArray) (left : Int) : Bool := gL left && bP a
abbrev N.laws_szStringS (a : List ByteArray) (left : Int) : Int := sub1 (wP a) left
def laws_szStringS_L0 {ρ : Type} (k : Int → Option ρ) (L0 : (List ByteArray) → Int → Int → Option ρ) (v0_0 : (List ByteArray)) (v0_1 : Int) (v0_2 : Int) : Option ρ := (cond (decide (v0_2 < (List.length v0_0 : Int))) (cond (inRange v0_2 (List.length v0_0)) (cond (decide ((IntKind.wrap .i64 (v0_1 - (ByteArray.size (List.getD v0_0 (Int.toNat v0_2) ByteArray.empty) : Int))) < (0 : Int))) (k (-1 : Int)) (L0 v0_0 (IntKind.wrap .i64 (v0_1 - (ByteArray.size (List.getD v0_0 (Int.toNat v0_2) ByteArray.empty) : Int))) (IntKind.wrap .i64 (v0_2 + (1 : Int))))) none) (k v0_1))
def laws_szStringS {ρ : Type} (k : Int → Option ρ) (L0 : (List ByteArray) → Int → Int → Option ρ) (a0 : (List ByteArray)) (a1 : Int) : Option ρ := (cond (decide ((IntKind.wrap .i64 (a1 - (List.length a0 : Int))) < (0 : Int))) (k (-1 : Int)) (L0 a0 (IntKind.wrap .i64 (a1 - (List.length a0 : Int))) (0 : Int)))
theorem laws_szStringS_ok {ρ : Type} (k : Int → Option ρ) (a0 : (List ByteArray)) (a1 : Int) (l_a0 : lnL (fun _ => True) a0) (g : G.laws_szStringS a0 a1 = true) : ∃ n0, ∀ n, n0 ≤ n → ∀ (L0 : Nat → (List ByteArray) → Int → Int → Option ρ) (h0 : ∀ ( m : Nat) (v0_0 : (List ByteArray)) (v0_1 : Int) (v0_2 : Int), L0 (m + 1) v0_0 v0_1 v0_2 = laws_szStringS_L0 k (L0 m) v0_0 v0_1 v0_2), laws_szStringS k (L0 n) a0 a1 = k (N.laws_szStringS a0 a1) := by
  unfold G.laws_szStringS at g
  replace g := (Bool.and_eq_true _ _).mp g
  refine ⟨a0.length + 1, fun n hn L0 h0 => ?_⟩
  refine sz_first (c := fun l => L0 n a0 l 0) g.1 l_a0.1 (fun g' => ?_)
  have g'' : 0 ≤ sub1 a0.length a1 ∧ sub1 a0.length a1 ≤ 1048576 := by simpa only [gL, Bool.and_eq_true, decide_eq_true_eq] using g'
  refine (loop_l (a := a0) (d := ByteArray.empty) l_a0.1 (L := fun m i s => L0 m a0 s i) (f := fun i x s c => cond (decide (IntKind.wrap .i64 (s - (x.size : Int)) < 0)) (k (-1)) (c (IntKind.wrap .i64 (s - (x.size : Int))))) (e := k) (fun m i s => h0 m a0 s i) hn).trans ?_
  refine foldI_sz (fun x => x.size ≤ 9223372036854775807) (fun i x s c hx hs0 hs1 => ?_) (fun s => rfl) a0 0 _ (fun x hx => by simpa using List.all_eq_true.1 g.2 x hx) g''.1 g''.2
  rw [wrap_sub hs0 hs1 (by omega) (by omega)]
  congr 1
  simp only [decide_eq_decide]
  omega
def O_laws_szStringS : Orac := nilO
theorem ok_laws_szStringS : OracOk Try.prog sigs O_laws_szStringS := nilO_ok
def A_laws_szStringS : Ann := fun b => cond (Nat.beq b 0) ⟨[(0, false), (1, false), (5, false)], []⟩ (⟨[], []⟩)
def S_laws_szStringS_0 (v0_0 : (List ByteArray)) (v0_1 : Int) (v0_2 : Int) : St := [(kT 0, some (.tv (.v (.slice 9 .str) v0_0 .no))), (kT 1, some (.tv (.v (.int .i64) v0_1 .no))), (kT 5, some (.tv (.v (.int .i64) v0_2 .no)))]
noncomputable def L_laws_szStringS_0 (n m : Nat) : St → Option Ret := loopOf tab sigs O_laws_szStringS A_laws_szStringS Try.f39 [((.int .i64), .no)] n (fun _ => 0) 0 m
theorem b_laws_szStringS_0 (n m : Nat) (v0_0 : (List ByteArray)) (v0_1 : Int) (v0_2 : Int) : L_laws_szStringS_0 n (m + 1) (S_laws_szStringS_0 v0_0 v0_1 v0_2) = laws_szStringS_L0 (fun r0 => some [⟨(.int .i64), r0⟩]) (fun v0_0 v0_1 v0_2 => L_laws_szStringS_0 n m (S_laws_szStringS_0 v0_0 v0_1 v0_2)) v0_0 v0_1 v0_2 := by kernel_rfl
theorem a_laws_szStringS (n : Nat) (a0 : (List ByteArray)) (a1 : Int) : absF tab sigs O_laws_szStringS A_laws_szStringS Try.f39 [((.int .i64), .no)] n [.val (.slice 9 .str) a0, .val (.int .i64) a1] = laws_szStringS (fun r0 => some [⟨(.int .i64), r0⟩]) (fun v0_0 v0_1 v0_2 => L_laws_szStringS_0 n n (S_laws_szStringS_0 v0_0 v0_1 v0_2)) a0 a1 := by kernel_rfl
theorem said_laws_szStringS (a0 : (List ByteArray)) (a1 : Int) (g : G.laws_szStringS a0 a1 = true) : Said Try.prog sigs_39 39 [.val (.slice 9 .str) a0, .val (.int .i64) a1] [⟨(.int .i64), N.laws_szStringS a0 a1⟩] := said_len (T := tab) (A := A_laws_szStringS) tabOk ok_laws_szStringS tabOk.follows Try.func39 (by kernel_rfl) (by kernel_rfl) (fun hl => let ⟨n, hn⟩ := laws_szStringS_ok (ρ := Ret) (fun r0 => some [⟨(.int .i64), r0⟩]) a0 a1 hl.1 g; ⟨n, (a_laws_szStringS n a0 a1).trans (hn n (Nat.le_refl n) (fun  m v0_0 v0_1 v0_2 => L_laws_szStringS_0 n  m (S_laws_szStringS_0 v0_0 v0_1 v0_2)) (fun  m v0_0 v0_1 v0_2 => b_laws_szStringS_0 n  m v0_0 v0_1 v0_2))⟩)
/-! laws.szEntry -/
abbrev G.laws_szEntry (a : TEntry) (left : Int) : Bool := gL left && bE a
abbrev N.laws_szEntry (a : TEntry) (left : Int) : Int := sub1 (wE a) left
def laws_szEntry {ρ : Type} (k : Int → Option ρ) (a0 : TEntry) (a1 : Int) : Option ρ := (cond (decide ((IntKind.wrap .i64 (a1 - (ByteArray.size a0.1 : Int))) < (0 : Int))) (k (-1 : Int)) (cond (G.laws_szStringS a0.2.2.2 (IntKind.wrap .i64 (a1 - (ByteArray.size a0.1 : Int)))) (cond (decide ((N.laws_szStringS a0.2.2.2 (IntKind.wrap .i64 (a1 - (ByteArray.size a0.1 : Int)))) < (0 : Int))) (k (-1 : Int)) (k (N.laws_szStringS a0.2.2.2 (IntKind.wrap .i64 (a1 - (ByteArray.size a0.1 : Int)))))) none))
theorem laws_szEntry_ok {ρ : Type} (k : Int → Option ρ) (a0 : TEntry) (a1 : Int) (l_a0 : (True ∧ (True ∧ (True ∧ lnL (fun _ => True) a0.2.2.2)))) (g : G.laws_szEntry a0 a1 = true) : laws_szEntry k  a0 a1 = k (N.laws_szEntry a0 a1) := by
  unfold G.laws_szEntry at g
  replace g := (Bool.and_eq_true _ _).mp g
  have g2 := (Bool.and_eq_true _ _).mp g.2
  refine sz_first (c := fun l => cond (gL l && bP a0.2.2.2) (cond (decide (sub1 (wP a0.2.2.2) l < 0)) (k (-1)) (k (sub1 (wP a0.2.2.2) l))) none) g.1 (of_decide_eq_true g2.1) (fun g1 => ?_)
  rw [g1, g2.2]
  exact sz_last
def OP_laws_szEntry (f_laws_szStringS : (List ByteArray) → Int → Int) (g_laws_szStringS : (List ByteArray) → Int → Bool) : Orac := (orcX 39 [.val (.slice 9 .str), .val (.int .i64)] (fun d => g_laws_szStringS d.1 d.2.1) (fun d => [⟨(.int .i64), f_laws_szStringS d.1 d.2.1⟩]) nilO)
def O_laws_szEntry : Orac := OP_laws_szEntry N.laws_szStringS G.laws_szStringS
def laws_szEntry_P {ρ : Type} (f_laws_szStringS : (List ByteArray) → Int → Int) (g_laws_szStringS : (List ByteArray) → Int → Bool) (k : Int → Option ρ) (a0 : TEntry) (a1 : Int) : Option ρ := (cond (decide ((IntKind.wrap .i64 (a1 - (ByteArray.size a0.1 : Int))) < (0 : Int))) (k (-1 : Int)) (cond (g_laws_szStringS a0.2.2.2 (IntKind.wrap .i64 (a1 - (ByteArray.size a0.1 : Int)))) (cond (decide ((f_laws_szStringS a0.2.2.2 (IntKind.wrap .i64 (a1 - (ByteArray.size a0.1 : Int)))) < (0 : Int))) (k (-1 : Int)) (k (f_laws_szStringS a0.2.2.2 (IntKind.wrap .i64 (a1 - (ByteArray.size a0.1 : Int)))))) none))
theorem ok_laws_szEntry : OracOk Try.prog sigs O_laws_szEntry := (orcX_ok rfl rfl (fun d g => said_laws_szStringS d.1 d.2.1 g) nilO_ok)
def A_laws_szEntry : Ann := fun b => ⟨[], []⟩
theorem aP_laws_szEntry (f_laws_szStringS : (List ByteArray) → Int → Int) (g_laws_szStringS : (List ByteArray) → Int → Bool) (n : Nat) (a0 : TEntry) (a1 : Int) : absF tab sigs (OP_laws_szEntry f_laws_szStringS g_laws_szStringS) A_laws_szEntry Try.f9 [((.int .i64), .no)] n [.val TyEntry a0, .val (.int .i64) a1] = laws_szEntry_P f_laws_szStringS g_laws_szStringS (fun r0 => some [⟨(.int .i64), r0⟩])  a0 a1 := by kernel_rfl
theorem a_laws_szEntry (n : Nat) (a0 : TEntry) (a1 : Int) : absF tab sigs O_laws_szEntry A_laws_szEntry Try.f9 [((.int .i64), .no)] n [.val TyEntry a0, .val (.int .i64) a1] = laws_szEntry (fun r0 => some [⟨(.int .i64), r0⟩])  a0 a1 := aP_laws_szEntry N.laws_szStringS G.laws_szStringS n a0 a1
theorem said_laws_szEntry (a0 : TEntry) (a1 : Int) (g : G.laws_szEntry a0 a1 = true) : Said Try.prog sigs_9 9 [.val TyEntry a0, .val (.int .i64) a1] [⟨(.int .i64), N.laws_szEntry a0 a1⟩] := said_len (T := tab) (A := A_laws_szEntry) tabOk ok_laws_szEntry tabOk.follows Try.func9 (by kernel_rfl) (by kernel_rfl) (fun hl => ⟨0, (a_laws_szEntry 0 a0 a1).trans (laws_szEntry_ok (ρ := Ret) (fun r0 => some [⟨(.int .i64), r0⟩]) a0 a1 hl.1 g)⟩)
/-! laws.szEntryS -/
abbrev G.laws_szEntryS (a : List TEntry) (left : Int) : Bool := gL left && a.all bE
abbrev N.laws_szEntryS (a : List TEntry) (left : Int) : Int := sub1 (wEs a) left
def laws_szEntryS_L0 {ρ : Type} (k : Int → Option ρ) (L0 : (List TEntry) → Int → Int → Option ρ) (v0_0 : (List TEntry)) (v0_1 : Int) (v0_2 : Int) : Option ρ := (cond (decide (v0_2 < (List.length v0_0 : Int))) (cond (inRange v0_2 (List.length v0_0)) (cond (G.laws_szEntry (List.getD v0_0 (Int.toNat v0_2) (ByteArray.empty, ((0 : Int), ((0 : Int), [])))) v0_1) (cond (decide ((N.laws_szEntry (List.getD v0_0 (Int.toNat v0_2) (ByteArray.empty, ((0 : Int), ((0 : Int), [])))) v0_1) < (0 : Int))) (k (-1 : Int)) (L0 v0_0 (N.laws_szEntry (List.getD v0_0 (Int.toNat v0_2) (ByteArray.empty, ((0 : Int), ((0 : Int), [])))) v0_1) (IntKind.wrap .i64 (v0_2 + (1 : Int))))) none) none) (k v0_1))
def laws_szEntryS {ρ : Type} (k : Int → Option ρ) (L0 : (List TEntry) → Int → Int → Option ρ) (a0 : (List TEntry)) (a1 : Int) : Option ρ := (cond (decide ((IntKind.wrap .i64 (a1 - (List.length a0 : Int))) < (0 : Int))) (k (-1 : Int)) (L0 a0 (IntKind.wrap .i64 (a1 - (List.length a0 : Int))) (0 : Int)))
theorem laws_szEntryS_ok {ρ : Type} (k : Int → Option ρ) (a0 : (List TEntry)) (a1 : Int) (l_a0 : lnL (fun y => (True ∧ (True ∧ (True ∧ lnL (fun _ => True) y.2.2.2)))) a0) (g : G.laws_szEntryS a0 a1 = true) : ∃ n0, ∀ n, n0 ≤ n → ∀ (L0 : Nat → (List TEntry) → Int → Int → Option ρ) (h0 : ∀ ( m : Nat) (v0_0 : (List TEntry)) (v0_1 : Int) (v0_2 : Int), L0 (m + 1) v0_0 v0_1 v0_2 = laws_szEntryS_L0 k (L0 m) v0_0 v0_1 v0_2), laws_szEntryS k (L0 n) a0 a1 = k (N.laws_szEntryS a0 a1) := by
  unfold G.laws_szEntryS at g
  replace g := (Bool.and_eq_true _ _).mp g
  refine ⟨a0.length + 1, fun n hn L0 h0 => ?_⟩
  refine sz_first (c := fun l => L0 n a0 l 0) g.1 l_a0.1 (fun g' => ?_)
  have g'' : 0 ≤ sub1 a0.length a1 ∧ sub1 a0.length a1 ≤ 1048576 := by simpa only [gL, Bool.and_eq_true, decide_eq_true_eq] using g'
  refine (loop_l (a := a0) (d := (ByteArray.empty, ((0 : Int), ((0 : Int), [])))) l_a0.1 (L := fun m i s => L0 m a0 s i) (f := fun i x s c => cond (gL s && bE x) (cond (decide (sub1 (wE x) s < 0)) (k (-1)) (c (sub1 (wE x) s))) none) (e := k) (fun m i s => h0 m a0 s i) hn).trans ?_
  refine foldI_sz (fun x => bE x = true) (fun i x s c hx hs0 hs1 => ?_) (fun s => rfl) a0 0 _ (fun x hx => List.all_eq_true.1 g.2 x hx) g''.1 g''.2
  have e1 : gL s = true := by simp [gL, hs0, hs1]
  rw [e1, hx]
  show cond (decide (sub1 (wE x) s < 0)) _ _ = _
  by_cases h : s < (wE x : Int)
  · have h2 := (sub1_neg (w := wE x) hs0).2 h
    simp [h, h2]
  · have h2 : ¬ sub1 (wE x) s < 0 := fun h3 => h ((sub1_neg hs0).1 h3)
    rw [decide_eq_false h2, decide_eq_false h, sub1_pos (w := wE x) (left := s) (by omega)]
def OP_laws_szEntryS (f_laws_szEntry : TEntry → Int → Int) (g_laws_szEntry : TEntry → Int → Bool) : Orac := (orcX 9 [.val TyEntry, .val (.int .i64)] (fun d => g_laws_szEntry d.1 d.2.1) (fun d => [⟨(.int .i64), f_laws_szEntry d.1 d.2.1⟩]) nilO)
def O_laws_szEntryS : Orac := OP_laws_szEntryS N.laws_szEntry G.laws_szEntry
def laws_szEntryS_P_L0 {ρ : Type} (f_laws_szEntry : TEntry → Int → Int) (g_laws_szEntry : TEntry → Int → Bool) (k : Int → Option ρ) (L0 : (List TEntry) → Int → Int → Option ρ) (v0_0 : (List TEntry)) (v0_1 : Int) (v0_2 : Int) : Option ρ := (cond (decide (v0_2 < (List.length v0_0 : Int))) (cond (inRange v0_2 (List.length v0_0)) (cond (g_laws_szEntry (List.getD v0_0 (Int.toNat v0_2) (ByteArray.empty, ((0 : Int), ((0 : Int), [])))) v0_1) (cond (decide ((f_laws_szEntry (List.getD v0_0 (Int.toNat v0_2) (ByteArray.empty, ((0 : Int), ((0 : Int), [])))) v0_1) < (0 : Int))) (k (-1 : Int)) (L0 v0_0 (f_laws_szEntry (List.getD v0_0 (Int.toNat v0_2) (ByteArray.empty, ((0 : Int), ((0 : Int), [])))) v0_1) (IntKind.wrap .i64 (v0_2 + (1 : Int))))) none) none) (k v0_1))
def laws_szEntryS_P {ρ : Type} (f_laws_szEntry : TEntry → Int → Int) (g_laws_szEntry : TEntry → Int → Bool) (k : Int → Option ρ) (L0 : (List TEntry) → Int → Int → Option ρ) (a0 : (List TEntry)) (a1 : Int) : Option ρ := (cond (decide ((IntKind.wrap .i64 (a1 - (List.length a0 : Int))) < (0 : Int))) (k (-1 : Int)) (L0 a0 (IntKind.wrap .i64 (a1 - (List.length a0 : Int))) (0 : Int)))
theorem ok_laws_szEntryS : OracOk Try.prog sigs O_laws_szEntryS := (orcX_ok rfl rfl (fun d g => said_laws_szEntry d.1 d.2.1 g) nilO_ok)
def A_laws_szEntryS : Ann := fun b => cond (Nat.beq b 0) ⟨[(0, false), (1, false), (5, false)], []⟩ (⟨[], []⟩)
def S_laws_szEntryS_0 (v0_0 : (List TEntry)) (v0_1 : Int) (v0_2 : Int) : St := [(kT 0, some (.tv (.v (.slice 24 TyEntry) v0_0 .no))), (kT 1, some (.tv (.v (.int .i64) v0_1 .no))), (kT 5, some (.tv (.v (.int .i64) v0_2 .no)))]
noncomputable def L_P_laws_szEntryS_0 (f_laws_szEntry : TEntry → Int → Int) (g_laws_szEntry : TEntry → Int → Bool) (n m : Nat) : St → Option Ret := loopOf tab sigs (OP_laws_szEntryS f_laws_szEntry g_laws_szEntry) A_laws_szEntryS Try.f17 [((.int .i64), .no)] n (fun _ => 0) 0 m
noncomputable def L_laws_szEntryS_0 (n m : Nat) : St → Option Ret := L_P_laws_szEntryS_0 N.laws_szEntry G.laws_szEntry n m
theorem bP_laws_szEntryS_0 (f_laws_szEntry : TEntry → Int → Int) (g_laws_szEntry : TEntry → Int → Bool) (n m : Nat) (v0_0 : (List TEntry)) (v0_1 : Int) (v0_2 : Int) : L_P_laws_szEntryS_0 f_laws_szEntry g_laws_szEntry n (m + 1) (S_laws_szEntryS_0 v0_0 v0_1 v0_2) = laws_szEntryS_P_L0 f_laws_szEntry g_laws_szEntry (fun r0 => some [⟨(.int .i64), r0⟩]) (fun v0_0 v0_1 v0_2 => L_P_laws_szEntryS_0 f_laws_szEntry g_laws_szEntry n m (S_laws_szEntryS_0 v0_0 v0_1 v0_2)) v0_0 v0_1 v0_2 := by kernel_rfl
theorem b_laws_szEntryS_0 (n m : Nat) (v0_0 : (List TEntry)) (v0_1 : Int) (v0_2 : Int) : L_laws_szEntryS_0 n (m + 1) (S_laws_szEntryS_0 v0_0 v0_1 v0_2) = laws_szEntryS_L0 (fun r0 => some [⟨(.int .i64), r0⟩]) (fun v0_0 v0_1 v0_2 => L_laws_szEntryS_0 n m (S_laws_szEntryS_0 v0_0 v0_1 v0_2)) v0_0 v0_1 v0_2 := bP_laws_szEntryS_0 N.laws_szEntry G.laws_szEntry n m v0_0 v0_1 v0_2
theorem aP_laws_szEntryS (f_laws_szEntry : TEntry → Int → Int) (g_laws_szEntry : TEntry → Int → Bool) (n : Nat) (a0 : (List TEntry)) (a1 : Int) : absF tab sigs (OP_laws_szEntryS f_laws_szEntry g_laws_szEntry) A_laws_szEntryS Try.f17 [((.int .i64), .no)] n [.val (.slice 24 TyEntry) a0, .val (.int .i64) a1] = laws_szEntryS_P f_laws_szEntry g_laws_szEntry (fun r0 => some [⟨(.int .i64), r0⟩]) (fun v0_0 v0_1 v0_2 => L_P_laws_szEntryS_0 f_laws_szEntry g_laws_szEntry n n (S_laws_szEntryS_0 v0_0 v0_1 v0_2)) a0 a1 := by kernel_rfl
theorem a_laws_szEntryS (n : Nat) (a0 : (List TEntry)) (a1 : Int) : absF tab sigs O_laws_szEntryS A_laws_szEntryS Try.f17 [((.int .i64), .no)] n [.val (.slice 24 TyEntry) a0, .val (.int .i64) a1] = laws_szEntryS (fun r0 => some [⟨(.int .i64), r0⟩]) (fun v0_0 v0_1 v0_2 => L_laws_szEntryS_0 n n (S_laws_szEntryS_0 v0_0 v0_1 v0_2)) a0 a1 := aP_laws_szEntryS N.laws_szEntry G.laws_szEntry n a0 a1
theorem said_laws_szEntryS (a0 : (List TEntry)) (a1 : Int) (g : G.laws_szEntryS a0 a1 = true) : Said Try.prog sigs_17 17 [.val (.slice 24 TyEntry) a0, .val (.int .i64) a1] [⟨(.int .i64), N.laws_szEntryS a0 a1⟩] := said_len (T := tab) (A := A_laws_szEntryS) tabOk ok_laws_szEntryS tabOk.follows Try.func17 (by kernel_rfl) (by kernel_rfl) (fun hl => let ⟨n, hn⟩ := laws_szEntryS_ok (ρ := Ret) (fun r0 => some [⟨(.int .i64), r0⟩]) a0 a1 hl.1 g; ⟨n, (a_laws_szEntryS n a0 a1).trans (hn n (Nat.le_refl n) (fun  m v0_0 v0_1 v0_2 => L_laws_szEntryS_0 n  m (S_laws_szEntryS_0 v0_0 v0_1 v0_2)) (fun  m v0_0 v0_1 v0_2 => b_laws_szEntryS_0 n  m v0_0 v0_1 v0_2))⟩)
/-! laws.toStringS -/
abbrev G.laws_toStringS (a : List ByteArray) : Bool := decide (a.length ≤ 1048576)
abbrev N.laws_toStringS (a : List ByteArray) : List ByteArray := a
def laws_toStringS_L0 {ρ : Type} (k : (List ByteArray) → Option ρ) (L0 : (List ByteArray) → Int → (List ByteArray) → Option ρ) (v0_0 : (List ByteArray)) (v0_1 : Int) (v0_2 : (List ByteArray)) : Option ρ := (cond (decide (v0_1 < (List.length v0_0 : Int))) (cond (inRange v0_1 (List.length v0_0)) (cond (inRange v0_1 (List.length v0_2)) (cond (inRange v0_1 (List.length v0_2)) (L0 v0_0 (IntKind.wrap .i64 (v0_1 + (1 : Int))) (List.set v0_2 (Int.toNat v0_1) (List.getD v0_0 (Int.toNat v0_1) ByteArray.empty))) none) none) none) (k v0_2))
def laws_toStringS {ρ : Type} (k : (List ByteArray) → Option ρ) (L0 : (List ByteArray) → Int → (List ByteArray) → Option ρ) (a0 : (List ByteArray)) : Option ρ := (cond (decide (0 ≤ (List.length a0 : Int)) && decide ((List.length a0 : Int) ≤ 549755813888)) (L0 a0 (0 : Int) (List.replicate (Int.toNat (List.length a0 : Int)) ByteArray.empty)) none)
theorem laws_toStringS_ok {ρ : Type} (k : (List ByteArray) → Option ρ) (a0 : (List ByteArray)) (l_a0 : lnL (fun _ => True) a0) (g : G.laws_toStringS a0 = true) : ∃ n0, ∀ n, n0 ≤ n → ∀ (L0 : Nat → (List ByteArray) → Int → (List ByteArray) → Option ρ) (h0 : ∀ ( m : Nat) (v0_0 : (List ByteArray)) (v0_1 : Int) (v0_2 : (List ByteArray)), L0 (m + 1) v0_0 v0_1 v0_2 = laws_toStringS_L0 k (L0 m) v0_0 v0_1 v0_2), laws_toStringS k (L0 n) a0 = k (N.laws_toStringS a0) := by
  unfold G.laws_toStringS at g
  refine ⟨a0.length + 1, fun n hn L0 h0 => ?_⟩
  have g' : a0.length ≤ 1048576 := by simpa using g
  have hg : (decide (0 ≤ (a0.length : Int)) && decide ((a0.length : Int) ≤ 549755813888)) = true := by simp; omega
  show cond _ _ none = _
  rw [hg]
  refine (raw_copy (a := a0) ByteArray.empty ByteArray.empty (fun x => x) (k := k) (L := fun m i out => L0 m a0 i out) (R := fun i out c => laws_toStringS_L0 k (fun _ i out => c i out) a0 i out) (fun m i s => h0 m a0 i s) (fun j out c hj hl => ?_) (fun s c => ?_) hn).trans (by simp)
  · simp [laws_toStringS_L0, lt_nat, inRange_nat, hj, hl, wrap_succ (j := j) (by unfold big; omega)]
  · simp [laws_toStringS_L0]
def O_laws_toStringS : Orac := nilO
theorem ok_laws_toStringS : OracOk Try.prog sigs O_laws_toStringS := nilO_ok
def A_laws_toStringS : Ann := fun b => cond (Nat.beq b 0) ⟨[(0, false), (3, true), (4, false)], []⟩ (⟨[], []⟩)
def S_laws_toStringS_0 (v0_0 : (List ByteArray)) (v0_1 : Int) (v0_2 : (List ByteArray)) : St := [(kT 0, some (.tv (.v (.slice 9 .str) v0_0 .no))), (kT 3, some (.tv (.v (.slice 9 .str) [] (.own 24)))), (kT 4, some (.tv (.v (.int .i64) v0_1 .no))), (kR 24, some (.row 9 .str v0_2))]
noncomputable def L_laws_toStringS_0 (n m : Nat) : St → Option Ret := loopOf tab sigs O_laws_toStringS A_laws_toStringS Try.f45 [((.slice 9 .str), (.own 0))] n (fun _ => 0) 0 m
theorem b_laws_toStringS_0 (n m : Nat) (v0_0 : (List ByteArray)) (v0_1 : Int) (v0_2 : (List ByteArray)) : L_laws_toStringS_0 n (m + 1) (S_laws_toStringS_0 v0_0 v0_1 v0_2) = laws_toStringS_L0 (fun r0 => some [⟨(.slice 9 .str), r0⟩]) (fun v0_0 v0_1 v0_2 => L_laws_toStringS_0 n m (S_laws_toStringS_0 v0_0 v0_1 v0_2)) v0_0 v0_1 v0_2 := by kernel_rfl
theorem a_laws_toStringS (n : Nat) (a0 : (List ByteArray)) : absF tab sigs O_laws_toStringS A_laws_toStringS Try.f45 [((.slice 9 .str), (.own 0))] n [.val (.slice 9 .str) a0] = laws_toStringS (fun r0 => some [⟨(.slice 9 .str), r0⟩]) (fun v0_0 v0_1 v0_2 => L_laws_toStringS_0 n n (S_laws_toStringS_0 v0_0 v0_1 v0_2)) a0 := by kernel_rfl
theorem said_laws_toStringS (a0 : (List ByteArray)) (g : G.laws_toStringS a0 = true) : Said Try.prog sigs_45 45 [.val (.slice 9 .str) a0] [⟨(.slice 9 .str), N.laws_toStringS a0⟩] := said_len (T := tab) (A := A_laws_toStringS) tabOk ok_laws_toStringS tabOk.follows Try.func45 (by kernel_rfl) (by kernel_rfl) (fun hl => let ⟨n, hn⟩ := laws_toStringS_ok (ρ := Ret) (fun r0 => some [⟨(.slice 9 .str), r0⟩]) a0 hl.1 g; ⟨n, (a_laws_toStringS n a0).trans (hn n (Nat.le_refl n) (fun  m v0_0 v0_1 v0_2 => L_laws_toStringS_0 n  m (S_laws_toStringS_0 v0_0 v0_1 v0_2)) (fun  m v0_0 v0_1 v0_2 => b_laws_toStringS_0 n  m v0_0 v0_1 v0_2))⟩)
/-! laws.toEntry -/
abbrev G.laws_toEntry (a : TEntry) : Bool := decide (wE a ≤ 1048576)
abbrev N.laws_toEntry (a : TEntry) : TEntry := a
def laws_toEntry {ρ : Type} (k : TEntry → Option ρ) (a0 : TEntry) : Option ρ := (cond (G.laws_toStringS a0.2.2.2) (k (a0.1, (a0.2.1, (a0.2.2.1, (N.laws_toStringS a0.2.2.2))))) none)
theorem laws_toEntry_ok {ρ : Type} (k : TEntry → Option ρ) (a0 : TEntry) (l_a0 : (True ∧ (True ∧ (True ∧ lnL (fun _ => True) a0.2.2.2)))) (g : G.laws_toEntry a0 = true) : laws_toEntry k  a0 = k (N.laws_toEntry a0) := by
  unfold G.laws_toEntry at g
  have g' : wE a0 ≤ 1048576 := by simpa using g
  unfold wE wP at g'
  have g1 : decide (a0.2.2.2.length ≤ 1048576) = true := by simp; omega
  simp only [laws_toEntry, G.laws_toStringS, g1, cond_true]
def OP_laws_toEntry (f_laws_toStringS : (List ByteArray) → (List ByteArray)) (g_laws_toStringS : (List ByteArray) → Bool) : Orac := (orcX 45 [.val (.slice 9 .str)] (fun d => g_laws_toStringS d.1) (fun d => [⟨(.slice 9 .str), f_laws_toStringS d.1⟩]) nilO)
def O_laws_toEntry : Orac := OP_laws_toEntry N.laws_toStringS G.laws_toStringS
def laws_toEntry_P {ρ : Type} (f_laws_toStringS : (List ByteArray) → (List ByteArray)) (g_laws_toStringS : (List ByteArray) → Bool) (k : TEntry → Option ρ) (a0 : TEntry) : Option ρ := (cond (g_laws_toStringS a0.2.2.2) (k (a0.1, (a0.2.1, (a0.2.2.1, (f_laws_toStringS a0.2.2.2))))) none)
theorem ok_laws_toEntry : OracOk Try.prog sigs O_laws_toEntry := (orcX_ok rfl rfl (fun d g => said_laws_toStringS d.1 g) nilO_ok)
def A_laws_toEntry : Ann := fun b => ⟨[], []⟩
theorem aP_laws_toEntry (f_laws_toStringS : (List ByteArray) → (List ByteArray)) (g_laws_toStringS : (List ByteArray) → Bool) (n : Nat) (a0 : TEntry) : absF tab sigs (OP_laws_toEntry f_laws_toStringS g_laws_toStringS) A_laws_toEntry Try.f12 [(TyEntry, (.pair .no (.pair .no (.pair .no (.own 0)))))] n [.val TyEntry a0] = laws_toEntry_P f_laws_toStringS g_laws_toStringS (fun r0 => some [⟨TyEntry, r0⟩])  a0 := by kernel_rfl
theorem a_laws_toEntry (n : Nat) (a0 : TEntry) : absF tab sigs O_laws_toEntry A_laws_toEntry Try.f12 [(TyEntry, (.pair .no (.pair .no (.pair .no (.own 0)))))] n [.val TyEntry a0] = laws_toEntry (fun r0 => some [⟨TyEntry, r0⟩])  a0 := aP_laws_toEntry N.laws_toStringS G.laws_toStringS n a0
theorem said_laws_toEntry (a0 : TEntry) (g : G.laws_toEntry a0 = true) : Said Try.prog sigs_12 12 [.val TyEntry a0] [⟨TyEntry, N.laws_toEntry a0⟩] := said_len (T := tab) (A := A_laws_toEntry) tabOk ok_laws_toEntry tabOk.follows Try.func12 (by kernel_rfl) (by kernel_rfl) (fun hl => ⟨0, (a_laws_toEntry 0 a0).trans (laws_toEntry_ok (ρ := Ret) (fun r0 => some [⟨TyEntry, r0⟩]) a0 hl.1 g)⟩)
/-! laws.toEntryS -/
abbrev G.laws_toEntryS (a : List TEntry) : Bool := decide (wEs a ≤ 1048576)
abbrev N.laws_toEntryS (a : List TEntry) : List TEntry := a
def laws_toEntryS_L0 {ρ : Type} (k : (List TEntry) → Option ρ) (L0 : (List TEntry) → Int → (List TEntry) → Option ρ) (v0_0 : (List TEntry)) (v0_1 : Int) (v0_2 : (List TEntry)) : Option ρ := (cond (decide (v0_1 < (List.length v0_0 : Int))) (cond (inRange v0_1 (List.length v0_0)) (cond (G.laws_toEntry (List.getD v0_0 (Int.toNat v0_1) (ByteArray.empty, ((0 : Int), ((0 : Int), []))))) (cond (inRange v0_1 (List.length v0_2)) (cond (inRange v0_1 (List.length v0_2)) (L0 v0_0 (IntKind.wrap .i64 (v0_1 + (1 : Int))) (List.set v0_2 (Int.toNat v0_1) (N.laws_toEntry (List.getD v0_0 (Int.toNat v0_1) (ByteArray.empty, ((0 : Int), ((0 : Int), []))))))) none) none) none) none) (k v0_2))
def laws_toEntryS {ρ : Type} (k : (List TEntry) → Option ρ) (L0 : (List TEntry) → Int → (List TEntry) → Option ρ) (a0 : (List TEntry)) : Option ρ := (cond (decide (0 ≤ (List.length a0 : Int)) && decide ((List.length a0 : Int) ≤ 549755813888)) (L0 a0 (0 : Int) (List.replicate (Int.toNat (List.length a0 : Int)) (ByteArray.empty, ((0 : Int), ((0 : Int), []))))) none)
theorem laws_toEntryS_ok {ρ : Type} (k : (List TEntry) → Option ρ) (a0 : (List TEntry)) (l_a0 : lnL (fun y => (True ∧ (True ∧ (True ∧ lnL (fun _ => True) y.2.2.2)))) a0) (g : G.laws_toEntryS a0 = true) : ∃ n0, ∀ n, n0 ≤ n → ∀ (L0 : Nat → (List TEntry) → Int → (List TEntry) → Option ρ) (h0 : ∀ ( m : Nat) (v0_0 : (List TEntry)) (v0_1 : Int) (v0_2 : (List TEntry)), L0 (m + 1) v0_0 v0_1 v0_2 = laws_toEntryS_L0 k (L0 m) v0_0 v0_1 v0_2), laws_toEntryS k (L0 n) a0 = k (N.laws_toEntryS a0) := by
  unfold G.laws_toEntryS at g
  refine ⟨a0.length + 1, fun n hn L0 h0 => ?_⟩
  have g' : wEs a0 ≤ 1048576 := by simpa using g
  have hl : a0.length ≤ 1048576 := by unfold wEs at g'; omega
  have hg : (decide (0 ≤ (a0.length : Int)) && decide ((a0.length : Int) ≤ 549755813888)) = true := by simp; omega
  show cond _ _ none = _
  rw [hg]
  refine (raw_copy (a := a0) (ByteArray.empty, (0, (0, []))) (ByteArray.empty, (0, (0, []))) (fun x => x) (k := k) (L := fun m i out => L0 m a0 i out) (R := fun i out c => laws_toEntryS_L0 k (fun _ i out => c i out) a0 i out) (fun m i s => h0 m a0 i s) (fun j out c hj hl => ?_) (fun s c => ?_) hn).trans (by simp)
  · have hw := wEs_mem (getD_mem (d := (ByteArray.empty, (0, (0, [])))) hj)
    have hw' : decide (wE (a0.getD j (ByteArray.empty, (0, (0, [])))) ≤ 1048576) = true := by simp only [decide_eq_true_eq]; omega
    simp only [laws_toEntryS_L0, G.laws_toEntry, lt_nat, inRange_nat, hj, hl, decide_true, cond_true, Int.toNat_natCast, hw', wrap_succ (j := j) (by unfold big; omega)]
  · simp [laws_toEntryS_L0]
def OP_laws_toEntryS (f_laws_toEntry : TEntry → TEntry) (g_laws_toEntry : TEntry → Bool) : Orac := (orcX 12 [.val TyEntry] (fun d => g_laws_toEntry d.1) (fun d => [⟨TyEntry, f_laws_toEntry d.1⟩]) nilO)
def O_laws_toEntryS : Orac := OP_laws_toEntryS N.laws_toEntry G.laws_toEntry
def laws_toEntryS_P_L0 {ρ : Type} (f_laws_toEntry : TEntry → TEntry) (g_laws_toEntry : TEntry → Bool) (k : (List TEntry) → Option ρ) (L0 : (List TEntry) → Int → (List TEntry) → Option ρ) (v0_0 : (List TEntry)) (v0_1 : Int) (v0_2 : (List TEntry)) : Option ρ := (cond (decide (v0_1 < (List.length v0_0 : Int))) (cond (inRange v0_1 (List.length v0_0)) (cond (g_laws_toEntry (List.getD v0_0 (Int.toNat v0_1) (ByteArray.empty, ((0 : Int), ((0 : Int), []))))) (cond (inRange v0_1 (List.length v0_2)) (cond (inRange v0_1 (List.length v0_2)) (L0 v0_0 (IntKind.wrap .i64 (v0_1 + (1 : Int))) (List.set v0_2 (Int.toNat v0_1) (f_laws_toEntry (List.getD v0_0 (Int.toNat v0_1) (ByteArray.empty, ((0 : Int), ((0 : Int), []))))))) none) none) none) none) (k v0_2))
def laws_toEntryS_P {ρ : Type} (f_laws_toEntry : TEntry → TEntry) (g_laws_toEntry : TEntry → Bool) (k : (List TEntry) → Option ρ) (L0 : (List TEntry) → Int → (List TEntry) → Option ρ) (a0 : (List TEntry)) : Option ρ := (cond (decide (0 ≤ (List.length a0 : Int)) && decide ((List.length a0 : Int) ≤ 549755813888)) (L0 a0 (0 : Int) (List.replicate (Int.toNat (List.length a0 : Int)) (ByteArray.empty, ((0 : Int), ((0 : Int), []))))) none)
theorem ok_laws_toEntryS : OracOk Try.prog sigs O_laws_toEntryS := (orcX_ok rfl rfl (fun d g => said_laws_toEntry d.1 g) nilO_ok)
def A_laws_toEntryS : Ann := fun b => cond (Nat.beq b 0) ⟨[(0, false), (3, true), (4, false)], []⟩ (⟨[], []⟩)
def S_laws_toEntryS_0 (v0_0 : (List TEntry)) (v0_1 : Int) (v0_2 : (List TEntry)) : St := [(kT 0, some (.tv (.v (.slice 24 TyEntry) v0_0 .no))), (kT 3, some (.tv (.v (.slice 31 TyEntry) [] (.own 24)))), (kT 4, some (.tv (.v (.int .i64) v0_1 .no))), (kR 24, some (.row 31 TyEntry v0_2))]
noncomputable def L_P_laws_toEntryS_0 (f_laws_toEntry : TEntry → TEntry) (g_laws_toEntry : TEntry → Bool) (n m : Nat) : St → Option Ret := loopOf tab sigs (OP_laws_toEntryS f_laws_toEntry g_laws_toEntry) A_laws_toEntryS Try.f19 [((.slice 31 TyEntry), (.own 0))] n (fun _ => 0) 0 m
noncomputable def L_laws_toEntryS_0 (n m : Nat) : St → Option Ret := L_P_laws_toEntryS_0 N.laws_toEntry G.laws_toEntry n m
theorem bP_laws_toEntryS_0 (f_laws_toEntry : TEntry → TEntry) (g_laws_toEntry : TEntry → Bool) (n m : Nat) (v0_0 : (List TEntry)) (v0_1 : Int) (v0_2 : (List TEntry)) : L_P_laws_toEntryS_0 f_laws_toEntry g_laws_toEntry n (m + 1) (S_laws_toEntryS_0 v0_0 v0_1 v0_2) = laws_toEntryS_P_L0 f_laws_toEntry g_laws_toEntry (fun r0 => some [⟨(.slice 31 TyEntry), r0⟩]) (fun v0_0 v0_1 v0_2 => L_P_laws_toEntryS_0 f_laws_toEntry g_laws_toEntry n m (S_laws_toEntryS_0 v0_0 v0_1 v0_2)) v0_0 v0_1 v0_2 := by kernel_rfl
theorem b_laws_toEntryS_0 (n m : Nat) (v0_0 : (List TEntry)) (v0_1 : Int) (v0_2 : (List TEntry)) : L_laws_toEntryS_0 n (m + 1) (S_laws_toEntryS_0 v0_0 v0_1 v0_2) = laws_toEntryS_L0 (fun r0 => some [⟨(.slice 31 TyEntry), r0⟩]) (fun v0_0 v0_1 v0_2 => L_laws_toEntryS_0 n m (S_laws_toEntryS_0 v0_0 v0_1 v0_2)) v0_0 v0_1 v0_2 := bP_laws_toEntryS_0 N.laws_toEntry G.laws_toEntry n m v0_0 v0_1 v0_2
theorem aP_laws_toEntryS (f_laws_toEntry : TEntry → TEntry) (g_laws_toEntry : TEntry → Bool) (n : Nat) (a0 : (List TEntry)) : absF tab sigs (OP_laws_toEntryS f_laws_toEntry g_laws_toEntry) A_laws_toEntryS Try.f19 [((.slice 31 TyEntry), (.own 0))] n [.val (.slice 24 TyEntry) a0] = laws_toEntryS_P f_laws_toEntry g_laws_toEntry (fun r0 => some [⟨(.slice 31 TyEntry), r0⟩]) (fun v0_0 v0_1 v0_2 => L_P_laws_toEntryS_0 f_laws_toEntry g_laws_toEntry n n (S_laws_toEntryS_0 v0_0 v0_1 v0_2)) a0 := by kernel_rfl
theorem a_laws_toEntryS (n : Nat) (a0 : (List TEntry)) : absF tab sigs O_laws_toEntryS A_laws_toEntryS Try.f19 [((.slice 31 TyEntry), (.own 0))] n [.val (.slice 24 TyEntry) a0] = laws_toEntryS (fun r0 => some [⟨(.slice 31 TyEntry), r0⟩]) (fun v0_0 v0_1 v0_2 => L_laws_toEntryS_0 n n (S_laws_toEntryS_0 v0_0 v0_1 v0_2)) a0 := aP_laws_toEntryS N.laws_toEntry G.laws_toEntry n a0
theorem said_laws_toEntryS (a0 : (List TEntry)) (g : G.laws_toEntryS a0 = true) : Said Try.prog sigs_19 19 [.val (.slice 24 TyEntry) a0] [⟨(.slice 31 TyEntry), N.laws_toEntryS a0⟩] := said_len (T := tab) (A := A_laws_toEntryS) tabOk ok_laws_toEntryS tabOk.follows Try.func19 (by kernel_rfl) (by kernel_rfl) (fun hl => let ⟨n, hn⟩ := laws_toEntryS_ok (ρ := Ret) (fun r0 => some [⟨(.slice 31 TyEntry), r0⟩]) a0 hl.1 g; ⟨n, (a_laws_toEntryS n a0).trans (hn n (Nat.le_refl n) (fun  m v0_0 v0_1 v0_2 => L_laws_toEntryS_0 n  m (S_laws_toEntryS_0 v0_0 v0_1 v0_2)) (fun  m v0_0 v0_1 v0_2 => b_laws_toEntryS_0 n  m v0_0 v0_1 v0_2))⟩)
/-! spec.l1In -/
abbrev N.spec_l1In (n lo hi : Int) : Bool := inR n lo hi
def spec_l1In {ρ : Type} (k : Bool → Option ρ) (a0 : Int) (a1 : Int) (a2 : Int) : Option ρ := (cond (decide (a0 ≥ a1)) (k (decide (a0 ≤ a2))) (k false))
theorem spec_l1In_ok {ρ : Type} (k : Bool → Option ρ) (a0 : Int) (a1 : Int) (a2 : Int) : spec_l1In k  a0 a1 a2 = k (N.spec_l1In a0 a1 a2) := by
  simp only [spec_l1In, inR, ge_iff_le]
  cases decide (a1 ≤ a0) <;> rfl
def O_spec_l1In : Orac := nilO
theorem ok_spec_l1In : OracOk Try.prog sigs O_spec_l1In := nilO_ok
def A_spec_l1In : Ann := fun b => ⟨[], []⟩
theorem a_spec_l1In (n : Nat) (a0 : Int) (a1 : Int) (a2 : Int) : absF tab sigs O_spec_l1In A_spec_l1In Try.f68 [(.bool, .no)] n [.val (.int .i64) a0, .val (.int .i64) a1, .val (.int .i64) a2] = spec_l1In (fun r0 => some [⟨.bool, r0⟩])  a0 a1 a2 := by kernel_rfl
theorem said_spec_l1In (a0 : Int) (a1 : Int) (a2 : Int) : Said Try.prog sigs_68 68 [.val (.int .i64) a0, .val (.int .i64) a1, .val (.int .i64) a2] [⟨.bool, N.spec_l1In a0 a1 a2⟩] := said_len (T := tab) (A := A_spec_l1In) tabOk ok_spec_l1In tabOk.follows Try.func68 (by kernel_rfl) (by kernel_rfl) (fun hl => ⟨0, (a_spec_l1In 0 a0 a1 a2).trans (spec_l1In_ok (ρ := Ret) (fun r0 => some [⟨.bool, r0⟩]) a0 a1 a2)⟩)
/-! spec.IsLabel -/
abbrev G.spec_IsLabel (s : ByteArray) : Bool := decide (s.size ≤ 1048576)
abbrev N.spec_IsLabel (s : ByteArray) : Bool := isLabel s
def spec_IsLabel_L0 {ρ : Type} (k : Bool → Option ρ) (L0 : ByteArray → Int → Option ρ) (v0_0 : ByteArray) (v0_1 : Int) : Option ρ := (cond (decide (v0_1 < (ByteArray.size v0_0 : Int))) (cond (inRange v0_1 (ByteArray.size v0_0)) (cond (decide ((bt v0_0 v0_1) < (97 : Int))) (cond (inRange v0_1 (ByteArray.size v0_0)) (cond (decide ((bt v0_0 v0_1) < (48 : Int))) (cond (inRange v0_1 (ByteArray.size v0_0)) (cond ((bt v0_0 v0_1) != (45 : Int)) (k false) (L0 v0_0 (IntKind.wrap .i64 (v0_1 + (1 : Int))))) none) (cond (inRange v0_1 (ByteArray.size v0_0)) (cond (decide ((bt v0_0 v0_1) > (57 : Int))) (cond (inRange v0_1 (ByteArray.size v0_0)) (cond ((bt v0_0 v0_1) != (45 : Int)) (k false) (L0 v0_0 (IntKind.wrap .i64 (v0_1 + (1 : Int))))) none) (L0 v0_0 (IntKind.wrap .i64 (v0_1 + (1 : Int))))) none)) none) (cond (inRange v0_1 (ByteArray.size v0_0)) (cond (decide ((bt v0_0 v0_1) > (122 : Int))) (cond (inRange v0_1 (ByteArray.size v0_0)) (cond (decide ((bt v0_0 v0_1) < (48 : Int))) (cond (inRange v0_1 (ByteArray.size v0_0)) (cond ((bt v0_0 v0_1) != (45 : Int)) (k false) (L0 v0_0 (IntKind.wrap .i64 (v0_1 + (1 : Int))))) none) (cond (inRange v0_1 (ByteArray.size v0_0)) (cond (decide ((bt v0_0 v0_1) > (57 : Int))) (cond (inRange v0_1 (ByteArray.size v0_0)) (cond ((bt v0_0 v0_1) != (45 : Int)) (k false) (L0 v0_0 (IntKind.wrap .i64 (v0_1 + (1 : Int))))) none) (L0 v0_0 (IntKind.wrap .i64 (v0_1 + (1 : Int))))) none)) none) (L0 v0_0 (IntKind.wrap .i64 (v0_1 + (1 : Int))))) none)) none) (k true))
def spec_IsLabel {ρ : Type} (k : Bool → Option ρ) (L0 : ByteArray → Int → Option ρ) (a0 : ByteArray) : Option ρ := (cond (!(N.spec_l1In (ByteArray.size a0 : Int) (1 : Int) (8 : Int))) (k false) (cond (inRange (0 : Int) (ByteArray.size a0)) (cond ((bt a0 (0 : Int)) == (45 : Int)) (k false) (cond (inRange (IntKind.wrap .i64 ((ByteArray.size a0 : Int) - (1 : Int))) (ByteArray.size a0)) (cond ((bt a0 (IntKind.wrap .i64 ((ByteArray.size a0 : Int) - (1 : Int)))) == (45 : Int)) (k false) (L0 a0 (0 : Int))) none)) none))
theorem spec_IsLabel_ok {ρ : Type} (k : Bool → Option ρ) (a0 : ByteArray) (g : G.spec_IsLabel a0 = true) : ∃ n0, ∀ n, n0 ≤ n → ∀ (L0 : Nat → ByteArray → Int → Option ρ) (h0 : ∀ ( m : Nat) (v0_0 : ByteArray) (v0_1 : Int), L0 (m + 1) v0_0 v0_1 = spec_IsLabel_L0 k (L0 m) v0_0 v0_1), spec_IsLabel k (L0 n) a0 = k (N.spec_IsLabel a0) := by
  unfold G.spec_IsLabel at g
  have hlen : a0.size ≤ 1048576 := of_decide_eq_true g
  refine ⟨a0.size + 1, fun n hn L0 h0 => ?_⟩
  show spec_IsLabel k (L0 n) a0 = k (isLabel a0)
  unfold spec_IsLabel isLabel
  dsimp only [N.spec_l1In]
  cases hr : inR (a0.size : Int) 1 8 with
  | false => rfl
  | true =>
    have hr2 : 1 ≤ (a0.size : Int) ∧ (a0.size : Int) ≤ 8 := by simpa [inR] using hr
    have e0 : inRange 0 a0.size = true := by unfold inRange; simp; omega
    have e1 : IntKind.wrap .i64 ((a0.size : Int) - 1) = ((a0.size - 1 : Nat) : Int) := by rw [wrap_id (by omega) (by omega)]; omega
    have e2 : inRange ((a0.size - 1 : Nat) : Int) a0.size = true := by rw [inRange_nat]; simp; omega
    have hrun := raw_run0 (σ := Unit) (s := ()) (L := fun m i _ => L0 m a0 i) (R := fun i _ c => spec_IsLabel_L0 k (fun _ i => c i ()) a0 i) (fun m i s => h0 m a0 i) a0.size (fun _ _ => True) (fun j _ => k (charsFrom a0 (a0.size - j) j)) (fun j s c hj _ hc => ?_) (fun s c _ => ?_) hn trivial
    · rw [e1]
      simp only [e0, e2, cond_true, Bool.not_true, cond_false]
      rw [hrun, Nat.sub_zero, label_edges a0 (by omega)]
      cases bt a0 0 == 45 <;> cases bt a0 ((a0.size - 1 : Nat) : Int) == 45 <;> simp
    · obtain ⟨m, hm⟩ : ∃ m, a0.size - j = m + 1 := ⟨a0.size - j - 1, by omega⟩
      have hm2 : a0.size - (j + 1) = m := by omega
      have hc' := hc () trivial
      rw [hm2] at hc'
      rw [hm]
      unfold charsFrom
      simp only [spec_IsLabel_L0, lt_nat, inRange_nat, decide_eq_true hj, cond_true, wrap_succ (j := j) (by unfold big; omega), hc']
      generalize bt a0 (j : Int) = b
      exact char_spec k b _
    · rw [Nat.sub_self]
      simp [spec_IsLabel_L0, charsFrom]
def OP_spec_IsLabel (f_spec_l1In : Int → Int → Int → Bool) : Orac := (orcX 68 [.val (.int .i64), .val (.int .i64), .val (.int .i64)] (fun d => true) (fun d => [⟨.bool, f_spec_l1In d.1 d.2.1 d.2.2.1⟩]) nilO)
def O_spec_IsLabel : Orac := OP_spec_IsLabel N.spec_l1In
def spec_IsLabel_P_L0 {ρ : Type} (f_spec_l1In : Int → Int → Int → Bool) (k : Bool → Option ρ) (L0 : ByteArray → Int → Option ρ) (v0_0 : ByteArray) (v0_1 : Int) : Option ρ := (cond (decide (v0_1 < (ByteArray.size v0_0 : Int))) (cond (inRange v0_1 (ByteArray.size v0_0)) (cond (decide ((bt v0_0 v0_1) < (97 : Int))) (cond (inRange v0_1 (ByteArray.size v0_0)) (cond (decide ((bt v0_0 v0_1) < (48 : Int))) (cond (inRange v0_1 (ByteArray.size v0_0)) (cond ((bt v0_0 v0_1) != (45 : Int)) (k false) (L0 v0_0 (IntKind.wrap .i64 (v0_1 + (1 : Int))))) none) (cond (inRange v0_1 (ByteArray.size v0_0)) (cond (decide ((bt v0_0 v0_1) > (57 : Int))) (cond (inRange v0_1 (ByteArray.size v0_0)) (cond ((bt v0_0 v0_1) != (45 : Int)) (k false) (L0 v0_0 (IntKind.wrap .i64 (v0_1 + (1 : Int))))) none) (L0 v0_0 (IntKind.wrap .i64 (v0_1 + (1 : Int))))) none)) none) (cond (inRange v0_1 (ByteArray.size v0_0)) (cond (decide ((bt v0_0 v0_1) > (122 : Int))) (cond (inRange v0_1 (ByteArray.size v0_0)) (cond (decide ((bt v0_0 v0_1) < (48 : Int))) (cond (inRange v0_1 (ByteArray.size v0_0)) (cond ((bt v0_0 v0_1) != (45 : Int)) (k false) (L0 v0_0 (IntKind.wrap .i64 (v0_1 + (1 : Int))))) none) (cond (inRange v0_1 (ByteArray.size v0_0)) (cond (decide ((bt v0_0 v0_1) > (57 : Int))) (cond (inRange v0_1 (ByteArray.size v0_0)) (cond ((bt v0_0 v0_1) != (45 : Int)) (k false) (L0 v0_0 (IntKind.wrap .i64 (v0_1 + (1 : Int))))) none) (L0 v0_0 (IntKind.wrap .i64 (v0_1 + (1 : Int))))) none)) none) (L0 v0_0 (IntKind.wrap .i64 (v0_1 + (1 : Int))))) none)) none) (k true))
def spec_IsLabel_P {ρ : Type} (f_spec_l1In : Int → Int → Int → Bool) (k : Bool → Option ρ) (L0 : ByteArray → Int → Option ρ) (a0 : ByteArray) : Option ρ := (cond (!(f_spec_l1In (ByteArray.size a0 : Int) (1 : Int) (8 : Int))) (k false) (cond (inRange (0 : Int) (ByteArray.size a0)) (cond ((bt a0 (0 : Int)) == (45 : Int)) (k false) (cond (inRange (IntKind.wrap .i64 ((ByteArray.size a0 : Int) - (1 : Int))) (ByteArray.size a0)) (cond ((bt a0 (IntKind.wrap .i64 ((ByteArray.size a0 : Int) - (1 : Int)))) == (45 : Int)) (k false) (L0 a0 (0 : Int))) none)) none))
theorem ok_spec_IsLabel : OracOk Try.prog sigs O_spec_IsLabel := (orcX_ok rfl rfl (fun d g => said_spec_l1In d.1 d.2.1 d.2.2.1) nilO_ok)
def A_spec_IsLabel : Ann := fun b => cond (Nat.beq b 0) ⟨[(0, false), (3, false)], []⟩ (⟨[], []⟩)
def S_spec_IsLabel_0 (v0_0 : ByteArray) (v0_1 : Int) : St := [(kT 0, some (.tv (.v .str v0_0 .no))), (kT 3, some (.tv (.v (.int .i64) v0_1 .no)))]
noncomputable def L_P_spec_IsLabel_0 (f_spec_l1In : Int → Int → Int → Bool) (n m : Nat) : St → Option Ret := loopOf tab sigs (OP_spec_IsLabel f_spec_l1In) A_spec_IsLabel Try.f67 [(.bool, .no)] n (fun _ => 0) 0 m
noncomputable def L_spec_IsLabel_0 (n m : Nat) : St → Option Ret := L_P_spec_IsLabel_0 N.spec_l1In n m
theorem bP_spec_IsLabel_0 (f_spec_l1In : Int → Int → Int → Bool) (n m : Nat) (v0_0 : ByteArray) (v0_1 : Int) : L_P_spec_IsLabel_0 f_spec_l1In n (m + 1) (S_spec_IsLabel_0 v0_0 v0_1) = spec_IsLabel_P_L0 f_spec_l1In (fun r0 => some [⟨.bool, r0⟩]) (fun v0_0 v0_1 => L_P_spec_IsLabel_0 f_spec_l1In n m (S_spec_IsLabel_0 v0_0 v0_1)) v0_0 v0_1 := by kernel_rfl
theorem b_spec_IsLabel_0 (n m : Nat) (v0_0 : ByteArray) (v0_1 : Int) : L_spec_IsLabel_0 n (m + 1) (S_spec_IsLabel_0 v0_0 v0_1) = spec_IsLabel_L0 (fun r0 => some [⟨.bool, r0⟩]) (fun v0_0 v0_1 => L_spec_IsLabel_0 n m (S_spec_IsLabel_0 v0_0 v0_1)) v0_0 v0_1 := bP_spec_IsLabel_0 N.spec_l1In n m v0_0 v0_1
theorem aP_spec_IsLabel (f_spec_l1In : Int → Int → Int → Bool) (n : Nat) (a0 : ByteArray) : absF tab sigs (OP_spec_IsLabel f_spec_l1In) A_spec_IsLabel Try.f67 [(.bool, .no)] n [.val .str a0] = spec_IsLabel_P f_spec_l1In (fun r0 => some [⟨.bool, r0⟩]) (fun v0_0 v0_1 => L_P_spec_IsLabel_0 f_spec_l1In n n (S_spec_IsLabel_0 v0_0 v0_1)) a0 := by kernel_rfl
theorem a_spec_IsLabel (n : Nat) (a0 : ByteArray) : absF tab sigs O_spec_IsLabel A_spec_IsLabel Try.f67 [(.bool, .no)] n [.val .str a0] = spec_IsLabel (fun r0 => some [⟨.bool, r0⟩]) (fun v0_0 v0_1 => L_spec_IsLabel_0 n n (S_spec_IsLabel_0 v0_0 v0_1)) a0 := aP_spec_IsLabel N.spec_l1In n a0
theorem said_spec_IsLabel (a0 : ByteArray) (g : G.spec_IsLabel a0 = true) : Said Try.prog sigs_67 67 [.val .str a0] [⟨.bool, N.spec_IsLabel a0⟩] := said_len (T := tab) (A := A_spec_IsLabel) tabOk ok_spec_IsLabel tabOk.follows Try.func67 (by kernel_rfl) (by kernel_rfl) (fun hl => let ⟨n, hn⟩ := spec_IsLabel_ok (ρ := Ret) (fun r0 => some [⟨.bool, r0⟩]) a0 g; ⟨n, (a_spec_IsLabel n a0).trans (hn n (Nat.le_refl n) (fun  m v0_0 v0_1 => L_spec_IsLabel_0 n  m (S_spec_IsLabel_0 v0_0 v0_1)) (fun  m v0_0 v0_1 => b_spec_IsLabel_0 n  m v0_0 v0_1))⟩)
/-! spec.IsPath -/
abbrev G.spec_IsPath (p : List ByteArray) : Bool := decide (wP p ≤ 1048576)
abbrev N.spec_IsPath (p : List ByteArray) : Bool := isPath p
def spec_IsPath_L0 {ρ : Type} (k : Bool → Option ρ) (L0 : (List ByteArray) → Int → Option ρ) (v0_0 : (List ByteArray)) (v0_1 : Int) : Option ρ := (cond (decide (v0_1 < (List.length v0_0 : Int))) (cond (inRange v0_1 (List.length v0_0)) (cond (G.spec_IsLabel (List.getD v0_0 (Int.toNat v0_1) ByteArray.empty)) (cond (!(N.spec_IsLabel (List.getD v0_0 (Int.toNat v0_1) ByteArray.empty))) (k false) (L0 v0_0 (IntKind.wrap .i64 (v0_1 + (1 : Int))))) none) none) (k (N.spec_l1In (List.length v0_0 : Int) (1 : Int) (4 : Int))))
def spec_IsPath {ρ : Type} (k : Bool → Option ρ) (L0 : (List ByteArray) → Int → Option ρ) (a0 : (List ByteArray)) : Option ρ := (L0 a0 (0 : Int))
theorem spec_IsPath_ok {ρ : Type} (k : Bool → Option ρ) (a0 : (List ByteArray)) (l_a0 : lnL (fun _ => True) a0) (g : G.spec_IsPath a0 = true) : ∃ n0, ∀ n, n0 ≤ n → ∀ (L0 : Nat → (List ByteArray) → Int → Option ρ) (h0 : ∀ ( m : Nat) (v0_0 : (List ByteArray)) (v0_1 : Int), L0 (m + 1) v0_0 v0_1 = spec_IsPath_L0 k (L0 m) v0_0 v0_1), spec_IsPath k (L0 n) a0 = k (N.spec_IsPath a0) := by
  unfold G.spec_IsPath at g
  have hw : wP a0 ≤ 1048576 := of_decide_eq_true g
  have hl : a0.length ≤ 1048576 := by unfold wP at hw; omega
  refine ⟨a0.length + 1, fun n hn L0 h0 => ?_⟩
  refine (raw_all (a := a0) ByteArray.empty isLabel (σ := Unit) (s := ()) (r := k false) (e := fun _ => k (inR (a0.length : Int) 1 4)) (L := fun m i _ => L0 m a0 i) (R := fun i _ c => spec_IsPath_L0 k (fun _ i => c i ()) a0 i) (fun m i s => h0 m a0 i) (fun j s c hj => ?_) (fun s c => ?_) hn).trans ?_
  · have hm := wP_mem (getD_mem (d := ByteArray.empty) hj)
    have g2 : decide ((a0.getD j ByteArray.empty).size ≤ 1048576) = true := by simp only [decide_eq_true_eq]; omega
    simp only [spec_IsPath_L0, lt_nat, inRange_nat, decide_eq_true hj, cond_true, Int.toNat_natCast, G.spec_IsLabel, N.spec_IsLabel, g2, wrap_succ (j := j) (by unfold big; omega)]
    cases isLabel (a0.getD j ByteArray.empty) <;> rfl
  · simp [spec_IsPath_L0]
  · show _ = k (inR (a0.length : Int) 1 4 && a0.all isLabel)
    cases a0.all isLabel <;> cases inR (a0.length : Int) 1 4 <;> rfl
def OP_spec_IsPath (f_spec_IsLabel : ByteArray → Bool) (g_spec_IsLabel : ByteArray → Bool) (f_spec_l1In : Int → Int → Int → Bool) : Orac := (orcX 68 [.val (.int .i64), .val (.int .i64), .val (.int .i64)] (fun d => true) (fun d => [⟨.bool, f_spec_l1In d.1 d.2.1 d.2.2.1⟩]) (orcX 67 [.val .str] (fun d => g_spec_IsLabel d.1) (fun d => [⟨.bool, f_spec_IsLabel d.1⟩]) nilO))
def O_spec_IsPath : Orac := OP_spec_IsPath N.spec_IsLabel G.spec_IsLabel N.spec_l1In
def spec_IsPath_P_L0 {ρ : Type} (f_spec_IsLabel : ByteArray → Bool) (g_spec_IsLabel : ByteArray → Bool) (f_spec_l1In : Int → Int → Int → Bool) (k : Bool → Option ρ) (L0 : (List ByteArray) → Int → Option ρ) (v0_0 : (List ByteArray)) (v0_1 : Int) : Option ρ := (cond (decide (v0_1 < (List.length v0_0 : Int))) (cond (inRange v0_1 (List.length v0_0)) (cond (g_spec_IsLabel (List.getD v0_0 (Int.toNat v0_1) ByteArray.empty)) (cond (!(f_spec_IsLabel (List.getD v0_0 (Int.toNat v0_1) ByteArray.empty))) (k false) (L0 v0_0 (IntKind.wrap .i64 (v0_1 + (1 : Int))))) none) none) (k (f_spec_l1In (List.length v0_0 : Int) (1 : Int) (4 : Int))))
def spec_IsPath_P {ρ : Type} (f_spec_IsLabel : ByteArray → Bool) (g_spec_IsLabel : ByteArray → Bool) (f_spec_l1In : Int → Int → Int → Bool) (k : Bool → Option ρ) (L0 : (List ByteArray) → Int → Option ρ) (a0 : (List ByteArray)) : Option ρ := (L0 a0 (0 : Int))
theorem ok_spec_IsPath : OracOk Try.prog sigs O_spec_IsPath := (orcX_ok rfl rfl (fun d g => said_spec_l1In d.1 d.2.1 d.2.2.1) (orcX_ok rfl rfl (fun d g => said_spec_IsLabel d.1 g) nilO_ok))
def A_spec_IsPath : Ann := fun b => cond (Nat.beq b 0) ⟨[(0, false), (3, false)], []⟩ (⟨[], []⟩)
def S_spec_IsPath_0 (v0_0 : (List ByteArray)) (v0_1 : Int) : St := [(kT 0, some (.tv (.v (.slice 9 .str) v0_0 .no))), (kT 3, some (.tv (.v (.int .i64) v0_1 .no)))]
noncomputable def L_P_spec_IsPath_0 (f_spec_IsLabel : ByteArray → Bool) (g_spec_IsLabel : ByteArray → Bool) (f_spec_l1In : Int → Int → Int → Bool) (n m : Nat) : St → Option Ret := loopOf tab sigs (OP_spec_IsPath f_spec_IsLabel g_spec_IsLabel f_spec_l1In) A_spec_IsPath Try.f88 [(.bool, .no)] n (fun _ => 0) 0 m
noncomputable def L_spec_IsPath_0 (n m : Nat) : St → Option Ret := L_P_spec_IsPath_0 N.spec_IsLabel G.spec_IsLabel N.spec_l1In n m
theorem bP_spec_IsPath_0 (f_spec_IsLabel : ByteArray → Bool) (g_spec_IsLabel : ByteArray → Bool) (f_spec_l1In : Int → Int → Int → Bool) (n m : Nat) (v0_0 : (List ByteArray)) (v0_1 : Int) : L_P_spec_IsPath_0 f_spec_IsLabel g_spec_IsLabel f_spec_l1In n (m + 1) (S_spec_IsPath_0 v0_0 v0_1) = spec_IsPath_P_L0 f_spec_IsLabel g_spec_IsLabel f_spec_l1In (fun r0 => some [⟨.bool, r0⟩]) (fun v0_0 v0_1 => L_P_spec_IsPath_0 f_spec_IsLabel g_spec_IsLabel f_spec_l1In n m (S_spec_IsPath_0 v0_0 v0_1)) v0_0 v0_1 := by kernel_rfl
theorem b_spec_IsPath_0 (n m : Nat) (v0_0 : (List ByteArray)) (v0_1 : Int) : L_spec_IsPath_0 n (m + 1) (S_spec_IsPath_0 v0_0 v0_1) = spec_IsPath_L0 (fun r0 => some [⟨.bool, r0⟩]) (fun v0_0 v0_1 => L_spec_IsPath_0 n m (S_spec_IsPath_0 v0_0 v0_1)) v0_0 v0_1 := bP_spec_IsPath_0 N.spec_IsLabel G.spec_IsLabel N.spec_l1In n m v0_0 v0_1
theorem aP_spec_IsPath (f_spec_IsLabel : ByteArray → Bool) (g_spec_IsLabel : ByteArray → Bool) (f_spec_l1In : Int → Int → Int → Bool) (n : Nat) (a0 : (List ByteArray)) : absF tab sigs (OP_spec_IsPath f_spec_IsLabel g_spec_IsLabel f_spec_l1In) A_spec_IsPath Try.f88 [(.bool, .no)] n [.val (.slice 9 .str) a0] = spec_IsPath_P f_spec_IsLabel g_spec_IsLabel f_spec_l1In (fun r0 => some [⟨.bool, r0⟩]) (fun v0_0 v0_1 => L_P_spec_IsPath_0 f_spec_IsLabel g_spec_IsLabel f_spec_l1In n n (S_spec_IsPath_0 v0_0 v0_1)) a0 := by kernel_rfl
theorem a_spec_IsPath (n : Nat) (a0 : (List ByteArray)) : absF tab sigs O_spec_IsPath A_spec_IsPath Try.f88 [(.bool, .no)] n [.val (.slice 9 .str) a0] = spec_IsPath (fun r0 => some [⟨.bool, r0⟩]) (fun v0_0 v0_1 => L_spec_IsPath_0 n n (S_spec_IsPath_0 v0_0 v0_1)) a0 := aP_spec_IsPath N.spec_IsLabel G.spec_IsLabel N.spec_l1In n a0
theorem said_spec_IsPath (a0 : (List ByteArray)) (g : G.spec_IsPath a0 = true) : Said Try.prog sigs_88 88 [.val (.slice 9 .str) a0] [⟨.bool, N.spec_IsPath a0⟩] := said_len (T := tab) (A := A_spec_IsPath) tabOk ok_spec_IsPath tabOk.follows Try.func88 (by kernel_rfl) (by kernel_rfl) (fun hl => let ⟨n, hn⟩ := spec_IsPath_ok (ρ := Ret) (fun r0 => some [⟨.bool, r0⟩]) a0 hl.1 g; ⟨n, (a_spec_IsPath n a0).trans (hn n (Nat.le_refl n) (fun  m v0_0 v0_1 => L_spec_IsPath_0 n  m (S_spec_IsPath_0 v0_0 v0_1)) (fun  m v0_0 v0_1 => b_spec_IsPath_0 n  m v0_0 v0_1))⟩)
/-! spec.IsEntry -/
abbrev G.spec_IsEntry (e : TEntry) : Bool := decide (wE e ≤ 1048576)
abbrev N.spec_IsEntry (e : TEntry) : Bool := isEntry e
def spec_IsEntry {ρ : Type} (k : Bool → Option ρ) (a0 : TEntry) : Option ρ := (cond (a0.2.1 == (1 : Int)) (cond (G.spec_IsLabel a0.1) (cond (N.spec_IsLabel a0.1) (cond (N.spec_l1In a0.2.2.1 (0 : Int) (999999 : Int)) (k ((List.length a0.2.2.2 : Int) == (0 : Int))) (k false)) (k false)) none) (cond (a0.2.1 == (2 : Int)) (cond (G.spec_IsLabel a0.1) (cond (N.spec_IsLabel a0.1) (cond (N.spec_l1In a0.2.2.1 (0 : Int) (2147483646 : Int)) (k ((List.length a0.2.2.2 : Int) == (0 : Int))) (k false)) (k false)) none) (cond (a0.2.1 == (3 : Int)) (cond (G.spec_IsLabel a0.1) (cond (N.spec_IsLabel a0.1) (cond (N.spec_l1In a0.2.2.1 (0 : Int) (2147483646 : Int)) (cond (G.spec_IsPath a0.2.2.2) (k (N.spec_IsPath a0.2.2.2)) none) (k false)) (k false)) none) (k false))))
theorem spec_IsEntry_ok {ρ : Type} (k : Bool → Option ρ) (a0 : TEntry) (l_a0 : (True ∧ (True ∧ (True ∧ lnL (fun _ => True) a0.2.2.2)))) (g : G.spec_IsEntry a0 = true) : spec_IsEntry k  a0 = k (N.spec_IsEntry a0) := by
  unfold G.spec_IsEntry at g
  have hw : wE a0 ≤ 1048576 := of_decide_eq_true g
  have g1 : decide (a0.1.size ≤ 1048576) = true := by unfold wE at hw; simp; omega
  have g2 : decide (wP a0.2.2.2 ≤ 1048576) = true := by unfold wE at hw; simp; omega
  simp only [spec_IsEntry, G.spec_IsLabel, N.spec_IsLabel, G.spec_IsPath, N.spec_IsPath, N.spec_l1In, g1, g2, cond_true, isEntry, isDigest]
  by_cases h1 : a0.2.1 = 1
  · have e1 : (a0.2.1 == 1) = true := by simp [h1]
    have e2 : (a0.2.1 == 2) = false := by simp [h1]
    have e3 : (a0.2.1 == 3) = false := by simp [h1]
    simp only [e1, e2, e3]
    cases isLabel a0.1 <;> cases inR a0.2.2.1 0 999999 <;> simp
  by_cases h2 : a0.2.1 = 2
  · have e1 : (a0.2.1 == 1) = false := by simp [h2]
    have e2 : (a0.2.1 == 2) = true := by simp [h2]
    have e3 : (a0.2.1 == 3) = false := by simp [h2]
    simp only [e1, e2, e3]
    cases isLabel a0.1 <;> cases inR a0.2.2.1 0 2147483646 <;> simp
  have e1 : (a0.2.1 == 1) = false := by simp [h1]
  have e2 : (a0.2.1 == 2) = false := by simp [h2]
  simp only [e1, e2]
  cases a0.2.1 == 3 <;> cases isLabel a0.1 <;> cases inR a0.2.2.1 0 2147483646 <;> simp
def OP_spec_IsEntry (f_spec_IsLabel : ByteArray → Bool) (g_spec_IsLabel : ByteArray → Bool) (f_spec_l1In : Int → Int → Int → Bool) (f_spec_IsPath : (List ByteArray) → Bool) (g_spec_IsPath : (List ByteArray) → Bool) : Orac := (orcX 88 [.val (.slice 9 .str)] (fun d => g_spec_IsPath d.1) (fun d => [⟨.bool, f_spec_IsPath d.1⟩]) (orcX 68 [.val (.int .i64), .val (.int .i64), .val (.int .i64)] (fun d => true) (fun d => [⟨.bool, f_spec_l1In d.1 d.2.1 d.2.2.1⟩]) (orcX 67 [.val .str] (fun d => g_spec_IsLabel d.1) (fun d => [⟨.bool, f_spec_IsLabel d.1⟩]) nilO)))
def O_spec_IsEntry : Orac := OP_spec_IsEntry N.spec_IsLabel G.spec_IsLabel N.spec_l1In N.spec_IsPath G.spec_IsPath
def spec_IsEntry_P {ρ : Type} (f_spec_IsLabel : ByteArray → Bool) (g_spec_IsLabel : ByteArray → Bool) (f_spec_l1In : Int → Int → Int → Bool) (f_spec_IsPath : (List ByteArray) → Bool) (g_spec_IsPath : (List ByteArray) → Bool) (k : Bool → Option ρ) (a0 : TEntry) : Option ρ := (cond (a0.2.1 == (1 : Int)) (cond (g_spec_IsLabel a0.1) (cond (f_spec_IsLabel a0.1) (cond (f_spec_l1In a0.2.2.1 (0 : Int) (999999 : Int)) (k ((List.length a0.2.2.2 : Int) == (0 : Int))) (k false)) (k false)) none) (cond (a0.2.1 == (2 : Int)) (cond (g_spec_IsLabel a0.1) (cond (f_spec_IsLabel a0.1) (cond (f_spec_l1In a0.2.2.1 (0 : Int) (2147483646 : Int)) (k ((List.length a0.2.2.2 : Int) == (0 : Int))) (k false)) (k false)) none) (cond (a0.2.1 == (3 : Int)) (cond (g_spec_IsLabel a0.1) (cond (f_spec_IsLabel a0.1) (cond (f_spec_l1In a0.2.2.1 (0 : Int) (2147483646 : Int)) (cond (g_spec_IsPath a0.2.2.2) (k (f_spec_IsPath a0.2.2.2)) none) (k false)) (k false)) none) (k false))))
theorem ok_spec_IsEntry : OracOk Try.prog sigs O_spec_IsEntry := (orcX_ok rfl rfl (fun d g => said_spec_IsPath d.1 g) (orcX_ok rfl rfl (fun d g => said_spec_l1In d.1 d.2.1 d.2.2.1) (orcX_ok rfl rfl (fun d g => said_spec_IsLabel d.1 g) nilO_ok)))
def A_spec_IsEntry : Ann := fun b => ⟨[], []⟩
theorem aP_spec_IsEntry (f_spec_IsLabel : ByteArray → Bool) (g_spec_IsLabel : ByteArray → Bool) (f_spec_l1In : Int → Int → Int → Bool) (f_spec_IsPath : (List ByteArray) → Bool) (g_spec_IsPath : (List ByteArray) → Bool) (n : Nat) (a0 : TEntry) : absF tab sigs (OP_spec_IsEntry f_spec_IsLabel g_spec_IsLabel f_spec_l1In f_spec_IsPath g_spec_IsPath) A_spec_IsEntry Try.f43 [(.bool, .no)] n [.val TyEntry a0] = spec_IsEntry_P f_spec_IsLabel g_spec_IsLabel f_spec_l1In f_spec_IsPath g_spec_IsPath (fun r0 => some [⟨.bool, r0⟩])  a0 := by kernel_rfl
theorem a_spec_IsEntry (n : Nat) (a0 : TEntry) : absF tab sigs O_spec_IsEntry A_spec_IsEntry Try.f43 [(.bool, .no)] n [.val TyEntry a0] = spec_IsEntry (fun r0 => some [⟨.bool, r0⟩])  a0 := aP_spec_IsEntry N.spec_IsLabel G.spec_IsLabel N.spec_l1In N.spec_IsPath G.spec_IsPath n a0
theorem said_spec_IsEntry (a0 : TEntry) (g : G.spec_IsEntry a0 = true) : Said Try.prog sigs_43 43 [.val TyEntry a0] [⟨.bool, N.spec_IsEntry a0⟩] := said_len (T := tab) (A := A_spec_IsEntry) tabOk ok_spec_IsEntry tabOk.follows Try.func43 (by kernel_rfl) (by kernel_rfl) (fun hl => ⟨0, (a_spec_IsEntry 0 a0).trans (spec_IsEntry_ok (ρ := Ret) (fun r0 => some [⟨.bool, r0⟩]) a0 hl.1 g)⟩)
/-! spec.CompareLabels -/
abbrev N.spec_CompareLabels (a b : ByteArray) : Int := cmpStr a b
def spec_CompareLabels {ρ : Type} (k : Int → Option ρ) (a0 : ByteArray) (a1 : ByteArray) : Option ρ := (cond (Op.bytesLess (ByteArray.toList a0) (ByteArray.toList a1)) (k (-1 : Int)) (cond (!(Op.bytesLess (ByteArray.toList a0) (ByteArray.toList a1) || ((ByteArray.toList a0) == (ByteArray.toList a1)))) (k (1 : Int)) (k (0 : Int))))
theorem spec_CompareLabels_ok {ρ : Type} (k : Int → Option ρ) (a0 : ByteArray) (a1 : ByteArray) : spec_CompareLabels k  a0 a1 = k (N.spec_CompareLabels a0 a1) := by
  simp only [spec_CompareLabels, cmpStr]
  cases Op.bytesLess a0.toList a1.toList <;> cases a0.toList == a1.toList <;> rfl
def O_spec_CompareLabels : Orac := nilO
theorem ok_spec_CompareLabels : OracOk Try.prog sigs O_spec_CompareLabels := nilO_ok
def A_spec_CompareLabels : Ann := fun b => ⟨[], []⟩
theorem a_spec_CompareLabels (n : Nat) (a0 : ByteArray) (a1 : ByteArray) : absF tab sigs O_spec_CompareLabels A_spec_CompareLabels Try.f70 [((.int .i64), .no)] n [.val .str a0, .val .str a1] = spec_CompareLabels (fun r0 => some [⟨(.int .i64), r0⟩])  a0 a1 := by kernel_rfl
theorem said_spec_CompareLabels (a0 : ByteArray) (a1 : ByteArray) : Said Try.prog sigs_70 70 [.val .str a0, .val .str a1] [⟨(.int .i64), N.spec_CompareLabels a0 a1⟩] := said_len (T := tab) (A := A_spec_CompareLabels) tabOk ok_spec_CompareLabels tabOk.follows Try.func70 (by kernel_rfl) (by kernel_rfl) (fun hl => ⟨0, (a_spec_CompareLabels 0 a0 a1).trans (spec_CompareLabels_ok (ρ := Ret) (fun r0 => some [⟨(.int .i64), r0⟩]) a0 a1)⟩)
/-! spec.AreEntries -/
abbrev G.spec_AreEntries (l : List TEntry) : Bool := decide (wEs l ≤ 1048576)
abbrev N.spec_AreEntries (l : List TEntry) : Bool := areEntries l
def spec_AreEntries_L0 {ρ : Type} (k : Bool → Option ρ) (L0 : (List TEntry) → Int → Option ρ) (v0_0 : (List TEntry)) (v0_1 : Int) : Option ρ := (cond (decide (v0_1 < (List.length v0_0 : Int))) (cond (inRange v0_1 (List.length v0_0)) (cond (G.spec_IsEntry (List.getD v0_0 (Int.toNat v0_1) (ByteArray.empty, ((0 : Int), ((0 : Int), []))))) (cond (!(N.spec_IsEntry (List.getD v0_0 (Int.toNat v0_1) (ByteArray.empty, ((0 : Int), ((0 : Int), [])))))) (k false) (cond (decide (v0_1 > (0 : Int))) (cond (inRange (IntKind.wrap .i64 (v0_1 - (1 : Int))) (List.length v0_0)) (cond (inRange v0_1 (List.length v0_0)) (cond ((N.spec_CompareLabels (List.getD v0_0 (Int.toNat (IntKind.wrap .i64 (v0_1 - (1 : Int)))) (ByteArray.empty, ((0 : Int), ((0 : Int), [])))).1 (List.getD v0_0 (Int.toNat v0_1) (ByteArray.empty, ((0 : Int), ((0 : Int), [])))).1) != (-1 : Int)) (k false) (L0 v0_0 (IntKind.wrap .i64 (v0_1 + (1 : Int))))) none) none) (L0 v0_0 (IntKind.wrap .i64 (v0_1 + (1 : Int)))))) none) none) (k (decide ((List.length v0_0 : Int) ≤ (12 : Int)))))
def spec_AreEntries {ρ : Type} (k : Bool → Option ρ) (L0 : (List TEntry) → Int → Option ρ) (a0 : (List TEntry)) : Option ρ := (L0 a0 (0 : Int))
theorem spec_AreEntries_ok {ρ : Type} (k : Bool → Option ρ) (a0 : (List TEntry)) (l_a0 : lnL (fun y => (True ∧ (True ∧ (True ∧ lnL (fun _ => True) y.2.2.2)))) a0) (g : G.spec_AreEntries a0 = true) : ∃ n0, ∀ n, n0 ≤ n → ∀ (L0 : Nat → (List TEntry) → Int → Option ρ) (h0 : ∀ ( m : Nat) (v0_0 : (List TEntry)) (v0_1 : Int), L0 (m + 1) v0_0 v0_1 = spec_AreEntries_L0 k (L0 m) v0_0 v0_1), spec_AreEntries k (L0 n) a0 = k (N.spec_AreEntries a0) := by
  unfold G.spec_AreEntries at g
  have hw : wEs a0 ≤ 1048576 := of_decide_eq_true g
  have hl : a0.length ≤ 1048576 := by unfold wEs at hw; omega
  refine ⟨a0.length + 1, fun n hn L0 h0 => ?_⟩
  have hrun := raw_run0 (σ := Unit) (s := ()) (L := fun m i _ => L0 m a0 i) (R := fun i _ c => spec_AreEntries_L0 k (fun _ i => c i ()) a0 i) (fun m i s => h0 m a0 i) a0.length (fun _ _ => True) (fun j _ => cond (areFrom a0 (a0.length - j) j) (k (decide (a0.length ≤ 12))) (k false)) (fun j s c hj _ hc => ?_) (fun s c _ => ?_) hn trivial
  · refine hrun.trans ?_
    show _ = k (areFrom a0 a0.length 0 && decide (a0.length ≤ 12))
    rw [Nat.sub_zero]
    cases areFrom a0 a0.length 0 <;> rfl
  · obtain ⟨m, hm⟩ : ∃ m, a0.length - j = m + 1 := ⟨a0.length - j - 1, by omega⟩
    have hm2 : a0.length - (j + 1) = m := by omega
    have hc' := hc () trivial
    rw [hm2] at hc'
    have hmem := wEs_mem (getD_mem (d := (ByteArray.empty, (0, (0, [])))) hj)
    have g2 : decide (wE (a0.getD j (ByteArray.empty, (0, (0, [])))) ≤ 1048576) = true := by simp only [decide_eq_true_eq]; omega
    rw [hm]
    unfold areFrom
    by_cases h0j : j = 0
    · subst h0j
      simp only [spec_AreEntries_L0, lt_nat, inRange_nat, decide_eq_true hj, cond_true, Int.toNat_natCast, G.spec_IsEntry, N.spec_IsEntry, g2, wrap_succ (j := 0) (by unfold big; omega), hc']
      cases isEntry (a0.getD 0 (ByteArray.empty, (0, (0, [])))) <;> simp
    · have e1 : decide ((j : Int) > 0) = true := by simp; omega
      have e2 : IntKind.wrap .i64 ((j : Int) - 1) = ((j - 1 : Nat) : Int) := by rw [wrap_id (by omega) (by omega)]; omega
      have e3 : j - 1 < a0.length := by omega
      simp only [spec_AreEntries_L0, lt_nat, inRange_nat, decide_eq_true hj, cond_true, Int.toNat_natCast, G.spec_IsEntry, N.spec_IsEntry, N.spec_CompareLabels, g2, e1, e2, decide_eq_true e3, wrap_succ (j := j) (by unfold big; omega), hc', decide_eq_false h0j, bne]
      cases isEntry (a0.getD j (ByteArray.empty, (0, (0, [])))) <;> cases cmpStr (a0.getD (j - 1) (ByteArray.empty, (0, (0, [])))).1 (a0.getD j (ByteArray.empty, (0, (0, [])))).1 == -1 <;> simp
  · have e1 : decide ((a0.length : Int) ≤ 12) = decide (a0.length ≤ 12) := by simp only [decide_eq_decide]; omega
    rw [Nat.sub_self]
    simp [spec_AreEntries_L0, areFrom, e1]
def OP_spec_AreEntries (f_spec_IsEntry : TEntry → Bool) (g_spec_IsEntry : TEntry → Bool) (f_spec_CompareLabels : ByteArray → ByteArray → Int) : Orac := (orcX 70 [.val .str, .val .str] (fun d => true) (fun d => [⟨(.int .i64), f_spec_CompareLabels d.1 d.2.1⟩]) (orcX 43 [.val TyEntry] (fun d => g_spec_IsEntry d.1) (fun d => [⟨.bool, f_spec_IsEntry d.1⟩]) nilO))
def O_spec_AreEntries : Orac := OP_spec_AreEntries N.spec_IsEntry G.spec_IsEntry N.spec_CompareLabels
def spec_AreEntries_P_L0 {ρ : Type} (f_spec_IsEntry : TEntry → Bool) (g_spec_IsEntry : TEntry → Bool) (f_spec_CompareLabels : ByteArray → ByteArray → Int) (k : Bool → Option ρ) (L0 : (List TEntry) → Int → Option ρ) (v0_0 : (List TEntry)) (v0_1 : Int) : Option ρ := (cond (decide (v0_1 < (List.length v0_0 : Int))) (cond (inRange v0_1 (List.length v0_0)) (cond (g_spec_IsEntry (List.getD v0_0 (Int.toNat v0_1) (ByteArray.empty, ((0 : Int), ((0 : Int), []))))) (cond (!(f_spec_IsEntry (List.getD v0_0 (Int.toNat v0_1) (ByteArray.empty, ((0 : Int), ((0 : Int), [])))))) (k false) (cond (decide (v0_1 > (0 : Int))) (cond (inRange (IntKind.wrap .i64 (v0_1 - (1 : Int))) (List.length v0_0)) (cond (inRange v0_1 (List.length v0_0)) (cond ((f_spec_CompareLabels (List.getD v0_0 (Int.toNat (IntKind.wrap .i64 (v0_1 - (1 : Int)))) (ByteArray.empty, ((0 : Int), ((0 : Int), [])))).1 (List.getD v0_0 (Int.toNat v0_1) (ByteArray.empty, ((0 : Int), ((0 : Int), [])))).1) != (-1 : Int)) (k false) (L0 v0_0 (IntKind.wrap .i64 (v0_1 + (1 : Int))))) none) none) (L0 v0_0 (IntKind.wrap .i64 (v0_1 + (1 : Int)))))) none) none) (k (decide ((List.length v0_0 : Int) ≤ (12 : Int)))))
def spec_AreEntries_P {ρ : Type} (f_spec_IsEntry : TEntry → Bool) (g_spec_IsEntry : TEntry → Bool) (f_spec_CompareLabels : ByteArray → ByteArray → Int) (k : Bool → Option ρ) (L0 : (List TEntry) → Int → Option ρ) (a0 : (List TEntry)) : Option ρ := (L0 a0 (0 : Int))
theorem ok_spec_AreEntries : OracOk Try.prog sigs O_spec_AreEntries := (orcX_ok rfl rfl (fun d g => said_spec_CompareLabels d.1 d.2.1) (orcX_ok rfl rfl (fun d g => said_spec_IsEntry d.1 g) nilO_ok))
def A_spec_AreEntries : Ann := fun b => cond (Nat.beq b 0) ⟨[(0, false), (3, false)], []⟩ (⟨[], []⟩)
def S_spec_AreEntries_0 (v0_0 : (List TEntry)) (v0_1 : Int) : St := [(kT 0, some (.tv (.v (.slice 31 TyEntry) v0_0 .no))), (kT 3, some (.tv (.v (.int .i64) v0_1 .no)))]
noncomputable def L_P_spec_AreEntries_0 (f_spec_IsEntry : TEntry → Bool) (g_spec_IsEntry : TEntry → Bool) (f_spec_CompareLabels : ByteArray → ByteArray → Int) (n m : Nat) : St → Option Ret := loopOf tab sigs (OP_spec_AreEntries f_spec_IsEntry g_spec_IsEntry f_spec_CompareLabels) A_spec_AreEntries Try.f53 [(.bool, .no)] n (fun _ => 0) 0 m
noncomputable def L_spec_AreEntries_0 (n m : Nat) : St → Option Ret := L_P_spec_AreEntries_0 N.spec_IsEntry G.spec_IsEntry N.spec_CompareLabels n m
theorem bP_spec_AreEntries_0 (f_spec_IsEntry : TEntry → Bool) (g_spec_IsEntry : TEntry → Bool) (f_spec_CompareLabels : ByteArray → ByteArray → Int) (n m : Nat) (v0_0 : (List TEntry)) (v0_1 : Int) : L_P_spec_AreEntries_0 f_spec_IsEntry g_spec_IsEntry f_spec_CompareLabels n (m + 1) (S_spec_AreEntries_0 v0_0 v0_1) = spec_AreEntries_P_L0 f_spec_IsEntry g_spec_IsEntry f_spec_CompareLabels (fun r0 => some [⟨.bool, r0⟩]) (fun v0_0 v0_1 => L_P_spec_AreEntries_0 f_spec_IsEntry g_spec_IsEntry f_spec_CompareLabels n m (S_spec_AreEntries_0 v0_0 v0_1)) v0_0 v0_1 := by kernel_rfl
theorem b_spec_AreEntries_0 (n m : Nat) (v0_0 : (List TEntry)) (v0_1 : Int) : L_spec_AreEntries_0 n (m + 1) (S_spec_AreEntries_0 v0_0 v0_1) = spec_AreEntries_L0 (fun r0 => some [⟨.bool, r0⟩]) (fun v0_0 v0_1 => L_spec_AreEntries_0 n m (S_spec_AreEntries_0 v0_0 v0_1)) v0_0 v0_1 := bP_spec_AreEntries_0 N.spec_IsEntry G.spec_IsEntry N.spec_CompareLabels n m v0_0 v0_1
theorem aP_spec_AreEntries (f_spec_IsEntry : TEntry → Bool) (g_spec_IsEntry : TEntry → Bool) (f_spec_CompareLabels : ByteArray → ByteArray → Int) (n : Nat) (a0 : (List TEntry)) : absF tab sigs (OP_spec_AreEntries f_spec_IsEntry g_spec_IsEntry f_spec_CompareLabels) A_spec_AreEntries Try.f53 [(.bool, .no)] n [.val (.slice 31 TyEntry) a0] = spec_AreEntries_P f_spec_IsEntry g_spec_IsEntry f_spec_CompareLabels (fun r0 => some [⟨.bool, r0⟩]) (fun v0_0 v0_1 => L_P_spec_AreEntries_0 f_spec_IsEntry g_spec_IsEntry f_spec_CompareLabels n n (S_spec_AreEntries_0 v0_0 v0_1)) a0 := by kernel_rfl
theorem a_spec_AreEntries (n : Nat) (a0 : (List TEntry)) : absF tab sigs O_spec_AreEntries A_spec_AreEntries Try.f53 [(.bool, .no)] n [.val (.slice 31 TyEntry) a0] = spec_AreEntries (fun r0 => some [⟨.bool, r0⟩]) (fun v0_0 v0_1 => L_spec_AreEntries_0 n n (S_spec_AreEntries_0 v0_0 v0_1)) a0 := aP_spec_AreEntries N.spec_IsEntry G.spec_IsEntry N.spec_CompareLabels n a0
theorem said_spec_AreEntries (a0 : (List TEntry)) (g : G.spec_AreEntries a0 = true) : Said Try.prog sigs_53 53 [.val (.slice 31 TyEntry) a0] [⟨.bool, N.spec_AreEntries a0⟩] := said_len (T := tab) (A := A_spec_AreEntries) tabOk ok_spec_AreEntries tabOk.follows Try.func53 (by kernel_rfl) (by kernel_rfl) (fun hl => let ⟨n, hn⟩ := spec_AreEntries_ok (ρ := Ret) (fun r0 => some [⟨.bool, r0⟩]) a0 hl.1 g; ⟨n, (a_spec_AreEntries n a0).trans (hn n (Nat.le_refl n) (fun  m v0_0 v0_1 => L_spec_AreEntries_0 n  m (S_spec_AreEntries_0 v0_0 v0_1)) (fun  m v0_0 v0_1 => b_spec_AreEntries_0 n  m v0_0 v0_1))⟩)
/-! spec.FindEntry -/
abbrev N.spec_FindEntry (l : List TEntry) (s : ByteArray) : Int := findEntry l s
def spec_FindEntry_L0 {ρ : Type} (k : Int → Option ρ) (L0 : (List TEntry) → ByteArray → Int → Option ρ) (v0_0 : (List TEntry)) (v0_1 : ByteArray) (v0_2 : Int) : Option ρ := (cond (decide (v0_2 < (List.length v0_0 : Int))) (cond (inRange v0_2 (List.length v0_0)) (cond ((ByteArray.toList (List.getD v0_0 (Int.toNat v0_2) (ByteArray.empty, ((0 : Int), ((0 : Int), [])))).1) == (ByteArray.toList v0_1)) (k v0_2) (L0 v0_0 v0_1 (IntKind.wrap .i64 (v0_2 + (1 : Int))))) none) (k (-1 : Int)))
def spec_FindEntry {ρ : Type} (k : Int → Option ρ) (L0 : (List TEntry) → ByteArray → Int → Option ρ) (a0 : (List TEntry)) (a1 : ByteArray) : Option ρ := (L0 a0 a1 (0 : Int))
theorem spec_FindEntry_ok {ρ : Type} (k : Int → Option ρ) (a0 : (List TEntry)) (a1 : ByteArray) (l_a0 : lnL (fun y => (True ∧ (True ∧ (True ∧ lnL (fun _ => True) y.2.2.2)))) a0) : ∃ n0, ∀ n, n0 ≤ n → ∀ (L0 : Nat → (List TEntry) → ByteArray → Int → Option ρ) (h0 : ∀ ( m : Nat) (v0_0 : (List TEntry)) (v0_1 : ByteArray) (v0_2 : Int), L0 (m + 1) v0_0 v0_1 v0_2 = spec_FindEntry_L0 k (L0 m) v0_0 v0_1 v0_2), spec_FindEntry k (L0 n) a0 a1 = k (N.spec_FindEntry a0 a1) := by
  refine ⟨a0.length + 1, fun n hn L0 h0 => ?_⟩
  refine raw_idx (a := a0) (ByteArray.empty, (0, (0, []))) (fun e => eqStr e.1 a1) (k := k) (σ := Unit) (s := ()) (L := fun m i _ => L0 m a0 a1 i) (R := fun i s c => spec_FindEntry_L0 k (fun _ _ i => c i ()) a0 a1 i) (fun m i s => h0 m a0 a1 i) (fun j s c hj => ?_) (fun s c => ?_) hn
  · have : j < big := by have := l_a0.1; omega
    simp [spec_FindEntry_L0, lt_nat, inRange_nat, hj, wrap_succ this, eqStr]
  · simp [spec_FindEntry_L0]
def O_spec_FindEntry : Orac := nilO
theorem ok_spec_FindEntry : OracOk Try.prog sigs O_spec_FindEntry := nilO_ok
def A_spec_FindEntry : Ann := fun b => cond (Nat.beq b 0) ⟨[(0, false), (1, false), (5, false)], []⟩ (⟨[], []⟩)
def S_spec_FindEntry_0 (v0_0 : (List TEntry)) (v0_1 : ByteArray) (v0_2 : Int) : St := [(kT 0, some (.tv (.v (.slice 31 TyEntry) v0_0 .no))), (kT 1, some (.tv (.v .str v0_1 .no))), (kT 5, some (.tv (.v (.int .i64) v0_2 .no)))]
noncomputable def L_spec_FindEntry_0 (n m : Nat) : St → Option Ret := loopOf tab sigs O_spec_FindEntry A_spec_FindEntry Try.f57 [((.int .i64), .no)] n (fun _ => 0) 0 m
theorem b_spec_FindEntry_0 (n m : Nat) (v0_0 : (List TEntry)) (v0_1 : ByteArray) (v0_2 : Int) : L_spec_FindEntry_0 n (m + 1) (S_spec_FindEntry_0 v0_0 v0_1 v0_2) = spec_FindEntry_L0 (fun r0 => some [⟨(.int .i64), r0⟩]) (fun v0_0 v0_1 v0_2 => L_spec_FindEntry_0 n m (S_spec_FindEntry_0 v0_0 v0_1 v0_2)) v0_0 v0_1 v0_2 := by kernel_rfl
theorem a_spec_FindEntry (n : Nat) (a0 : (List TEntry)) (a1 : ByteArray) : absF tab sigs O_spec_FindEntry A_spec_FindEntry Try.f57 [((.int .i64), .no)] n [.val (.slice 31 TyEntry) a0, .val .str a1] = spec_FindEntry (fun r0 => some [⟨(.int .i64), r0⟩]) (fun v0_0 v0_1 v0_2 => L_spec_FindEntry_0 n n (S_spec_FindEntry_0 v0_0 v0_1 v0_2)) a0 a1 := by kernel_rfl
theorem said_spec_FindEntry (a0 : (List TEntry)) (a1 : ByteArray) : Said Try.prog sigs_57 57 [.val (.slice 31 TyEntry) a0, .val .str a1] [⟨(.int .i64), N.spec_FindEntry a0 a1⟩] := said_len (T := tab) (A := A_spec_FindEntry) tabOk ok_spec_FindEntry tabOk.follows Try.func57 (by kernel_rfl) (by kernel_rfl) (fun hl => let ⟨n, hn⟩ := spec_FindEntry_ok (ρ := Ret) (fun r0 => some [⟨(.int .i64), r0⟩]) a0 a1 hl.1; ⟨n, (a_spec_FindEntry n a0 a1).trans (hn n (Nat.le_refl n) (fun  m v0_0 v0_1 v0_2 => L_spec_FindEntry_0 n  m (S_spec_FindEntry_0 v0_0 v0_1 v0_2)) (fun  m v0_0 v0_1 v0_2 => b_spec_FindEntry_0 n  m v0_0 v0_1 v0_2))⟩)
/-! spec.RankOf -/
abbrev N.spec_RankOf (l : List TEntry) (s : ByteArray) : Int := rankOf l s
def spec_RankOf_L0 {ρ : Type} (k : Int → Option ρ) (L0 : (List TEntry) → ByteArray → Int → Int → Option ρ) (v0_0 : (List TEntry)) (v0_1 : ByteArray) (v0_2 : Int) (v0_3 : Int) : Option ρ := (cond (decide (v0_3 < (List.length v0_0 : Int))) (cond (inRange v0_3 (List.length v0_0)) (cond (decide ((N.spec_CompareLabels (List.getD v0_0 (Int.toNat v0_3) (ByteArray.empty, ((0 : Int), ((0 : Int), [])))).1 v0_1) < (0 : Int))) (L0 v0_0 v0_1 (IntKind.wrap .i64 (v0_2 + (1 : Int))) (IntKind.wrap .i64 (v0_3 + (1 : Int)))) (L0 v0_0 v0_1 v0_2 (IntKind.wrap .i64 (v0_3 + (1 : Int))))) none) (k v0_2))
def spec_RankOf {ρ : Type} (k : Int → Option ρ) (L0 : (List TEntry) → ByteArray → Int → Int → Option ρ) (a0 : (List TEntry)) (a1 : ByteArray) : Option ρ := (L0 a0 a1 (0 : Int) (0 : Int))
theorem spec_RankOf_ok {ρ : Type} (k : Int → Option ρ) (a0 : (List TEntry)) (a1 : ByteArray) (l_a0 : lnL (fun y => (True ∧ (True ∧ (True ∧ lnL (fun _ => True) y.2.2.2)))) a0) : ∃ n0, ∀ n, n0 ≤ n → ∀ (L0 : Nat → (List TEntry) → ByteArray → Int → Int → Option ρ) (h0 : ∀ ( m : Nat) (v0_0 : (List TEntry)) (v0_1 : ByteArray) (v0_2 : Int) (v0_3 : Int), L0 (m + 1) v0_0 v0_1 v0_2 v0_3 = spec_RankOf_L0 k (L0 m) v0_0 v0_1 v0_2 v0_3), spec_RankOf k (L0 n) a0 a1 = k (N.spec_RankOf a0 a1) := by
  refine ⟨a0.length + 1, fun n hn L0 h0 => ?_⟩
  refine raw_foldl (a := a0) (ByteArray.empty, (0, (0, []))) (fun n e => cond (decide (cmpStr e.1 a1 < 0)) (IntKind.wrap .i64 (n + 1)) n) (k := k) (s := 0) (L := fun m i s => L0 m a0 a1 s i) (R := fun i s c => spec_RankOf_L0 k (fun _ _ s i => c i s) a0 a1 s i) (fun m i s => h0 m a0 a1 s i) (fun _ _ => True) (fun j s c hj _ => ?_) (fun _ _ _ _ => trivial) (fun s c => ?_) hn trivial
  · have : j < big := by have := l_a0.1; omega
    simp only [spec_RankOf_L0, lt_nat, inRange_nat, decide_eq_true hj, cond_true, Int.toNat_natCast, wrap_succ this, N.spec_CompareLabels]
    cases decide (cmpStr (a0.getD j (ByteArray.empty, (0, (0, [])))).1 a1 < 0) <;> rfl
  · simp [spec_RankOf_L0]
def OP_spec_RankOf (f_spec_CompareLabels : ByteArray → ByteArray → Int) : Orac := (orcX 70 [.val .str, .val .str] (fun d => true) (fun d => [⟨(.int .i64), f_spec_CompareLabels d.1 d.2.1⟩]) nilO)
def O_spec_RankOf : Orac := OP_spec_RankOf N.spec_CompareLabels
def spec_RankOf_P_L0 {ρ : Type} (f_spec_CompareLabels : ByteArray → ByteArray → Int) (k : Int → Option ρ) (L0 : (List TEntry) → ByteArray → Int → Int → Option ρ) (v0_0 : (List TEntry)) (v0_1 : ByteArray) (v0_2 : Int) (v0_3 : Int) : Option ρ := (cond (decide (v0_3 < (List.length v0_0 : Int))) (cond (inRange v0_3 (List.length v0_0)) (cond (decide ((f_spec_CompareLabels (List.getD v0_0 (Int.toNat v0_3) (ByteArray.empty, ((0 : Int), ((0 : Int), [])))).1 v0_1) < (0 : Int))) (L0 v0_0 v0_1 (IntKind.wrap .i64 (v0_2 + (1 : Int))) (IntKind.wrap .i64 (v0_3 + (1 : Int)))) (L0 v0_0 v0_1 v0_2 (IntKind.wrap .i64 (v0_3 + (1 : Int))))) none) (k v0_2))
def spec_RankOf_P {ρ : Type} (f_spec_CompareLabels : ByteArray → ByteArray → Int) (k : Int → Option ρ) (L0 : (List TEntry) → ByteArray → Int → Int → Option ρ) (a0 : (List TEntry)) (a1 : ByteArray) : Option ρ := (L0 a0 a1 (0 : Int) (0 : Int))
theorem ok_spec_RankOf : OracOk Try.prog sigs O_spec_RankOf := (orcX_ok rfl rfl (fun d g => said_spec_CompareLabels d.1 d.2.1) nilO_ok)
def A_spec_RankOf : Ann := fun b => cond (Nat.beq b 0) ⟨[(0, false), (1, false), (5, false), (6, false)], []⟩ (⟨[], []⟩)
def S_spec_RankOf_0 (v0_0 : (List TEntry)) (v0_1 : ByteArray) (v0_2 : Int) (v0_3 : Int) : St := [(kT 0, some (.tv (.v (.slice 31 TyEntry) v0_0 .no))), (kT 1, some (.tv (.v .str v0_1 .no))), (kT 5, some (.tv (.v (.int .i64) v0_2 .no))), (kT 6, some (.tv (.v (.int .i64) v0_3 .no)))]
noncomputable def L_P_spec_RankOf_0 (f_spec_CompareLabels : ByteArray → ByteArray → Int) (n m : Nat) : St → Option Ret := loopOf tab sigs (OP_spec_RankOf f_spec_CompareLabels) A_spec_RankOf Try.f75 [((.int .i64), .no)] n (fun _ => 0) 0 m
noncomputable def L_spec_RankOf_0 (n m : Nat) : St → Option Ret := L_P_spec_RankOf_0 N.spec_CompareLabels n m
theorem bP_spec_RankOf_0 (f_spec_CompareLabels : ByteArray → ByteArray → Int) (n m : Nat) (v0_0 : (List TEntry)) (v0_1 : ByteArray) (v0_2 : Int) (v0_3 : Int) : L_P_spec_RankOf_0 f_spec_CompareLabels n (m + 1) (S_spec_RankOf_0 v0_0 v0_1 v0_2 v0_3) = spec_RankOf_P_L0 f_spec_CompareLabels (fun r0 => some [⟨(.int .i64), r0⟩]) (fun v0_0 v0_1 v0_2 v0_3 => L_P_spec_RankOf_0 f_spec_CompareLabels n m (S_spec_RankOf_0 v0_0 v0_1 v0_2 v0_3)) v0_0 v0_1 v0_2 v0_3 := by kernel_rfl
theorem b_spec_RankOf_0 (n m : Nat) (v0_0 : (List TEntry)) (v0_1 : ByteArray) (v0_2 : Int) (v0_3 : Int) : L_spec_RankOf_0 n (m + 1) (S_spec_RankOf_0 v0_0 v0_1 v0_2 v0_3) = spec_RankOf_L0 (fun r0 => some [⟨(.int .i64), r0⟩]) (fun v0_0 v0_1 v0_2 v0_3 => L_spec_RankOf_0 n m (S_spec_RankOf_0 v0_0 v0_1 v0_2 v0_3)) v0_0 v0_1 v0_2 v0_3 := bP_spec_RankOf_0 N.spec_CompareLabels n m v0_0 v0_1 v0_2 v0_3
theorem aP_spec_RankOf (f_spec_CompareLabels : ByteArray → ByteArray → Int) (n : Nat) (a0 : (List TEntry)) (a1 : ByteArray) : absF tab sigs (OP_spec_RankOf f_spec_CompareLabels) A_spec_RankOf Try.f75 [((.int .i64), .no)] n [.val (.slice 31 TyEntry) a0, .val .str a1] = spec_RankOf_P f_spec_CompareLabels (fun r0 => some [⟨(.int .i64), r0⟩]) (fun v0_0 v0_1 v0_2 v0_3 => L_P_spec_RankOf_0 f_spec_CompareLabels n n (S_spec_RankOf_0 v0_0 v0_1 v0_2 v0_3)) a0 a1 := by kernel_rfl
theorem a_spec_RankOf (n : Nat) (a0 : (List TEntry)) (a1 : ByteArray) : absF tab sigs O_spec_RankOf A_spec_RankOf Try.f75 [((.int .i64), .no)] n [.val (.slice 31 TyEntry) a0, .val .str a1] = spec_RankOf (fun r0 => some [⟨(.int .i64), r0⟩]) (fun v0_0 v0_1 v0_2 v0_3 => L_spec_RankOf_0 n n (S_spec_RankOf_0 v0_0 v0_1 v0_2 v0_3)) a0 a1 := aP_spec_RankOf N.spec_CompareLabels n a0 a1
theorem said_spec_RankOf (a0 : (List TEntry)) (a1 : ByteArray) : Said Try.prog sigs_75 75 [.val (.slice 31 TyEntry) a0, .val .str a1] [⟨(.int .i64), N.spec_RankOf a0 a1⟩] := said_len (T := tab) (A := A_spec_RankOf) tabOk ok_spec_RankOf tabOk.follows Try.func75 (by kernel_rfl) (by kernel_rfl) (fun hl => let ⟨n, hn⟩ := spec_RankOf_ok (ρ := Ret) (fun r0 => some [⟨(.int .i64), r0⟩]) a0 a1 hl.1; ⟨n, (a_spec_RankOf n a0 a1).trans (hn n (Nat.le_refl n) (fun  m v0_0 v0_1 v0_2 v0_3 => L_spec_RankOf_0 n  m (S_spec_RankOf_0 v0_0 v0_1 v0_2 v0_3)) (fun  m v0_0 v0_1 v0_2 v0_3 => b_spec_RankOf_0 n  m v0_0 v0_1 v0_2 v0_3))⟩)
/-! spec.l5Copy -/
abbrev G.spec_l5Copy (a : List ByteArray) : Bool := decide (a.length ≤ 1048576)
abbrev N.spec_l5Copy (a : List ByteArray) : List ByteArray := a
def spec_l5Copy {ρ : Type} (k : (List ByteArray) → Option ρ) (a0 : (List ByteArray)) : Option ρ := (cond (fit (List.length ([] : (List ByteArray))) (List.length a0)) (k (List.append ([] : (List ByteArray)) a0)) none)
theorem spec_l5Copy_ok {ρ : Type} (k : (List ByteArray) → Option ρ) (a0 : (List ByteArray)) (l_a0 : lnL (fun _ => True) a0) (g : G.spec_l5Copy a0 = true) : spec_l5Copy k  a0 = k (N.spec_l5Copy a0) := by
  unfold G.spec_l5Copy at g
  have h1 : fit (List.length ([] : List ByteArray)) (List.length a0) = true := fit_of (by have := of_decide_eq_true g; simp; omega)
  unfold spec_l5Copy
  rw [h1]
  rfl
def O_spec_l5Copy : Orac := nilO
theorem ok_spec_l5Copy : OracOk Try.prog sigs O_spec_l5Copy := nilO_ok
def A_spec_l5Copy : Ann := fun b => ⟨[], []⟩
theorem a_spec_l5Copy (n : Nat) (a0 : (List ByteArray)) : absF tab sigs O_spec_l5Copy A_spec_l5Copy Try.f106 [((.slice 9 .str), (.own 0))] n [.val (.slice 9 .str) a0] = spec_l5Copy (fun r0 => some [⟨(.slice 9 .str), r0⟩])  a0 := by kernel_rfl
theorem said_spec_l5Copy (a0 : (List ByteArray)) (g : G.spec_l5Copy a0 = true) : Said Try.prog sigs_106 106 [.val (.slice 9 .str) a0] [⟨(.slice 9 .str), N.spec_l5Copy a0⟩] := said_len (T := tab) (A := A_spec_l5Copy) tabOk ok_spec_l5Copy tabOk.follows Try.func106 (by kernel_rfl) (by kernel_rfl) (fun hl => ⟨0, (a_spec_l5Copy 0 a0).trans (spec_l5Copy_ok (ρ := Ret) (fun r0 => some [⟨(.slice 9 .str), r0⟩]) a0 hl.1 g)⟩)
/-! spec.l8Copy -/
abbrev G.spec_l8Copy (e : TEntry) : Bool := decide (e.2.2.2.length ≤ 1048576)
abbrev N.spec_l8Copy (e : TEntry) : TEntry := e
def spec_l8Copy {ρ : Type} (k : TEntry → Option ρ) (a0 : TEntry) : Option ρ := (cond (G.spec_l5Copy a0.2.2.2) (k (a0.1, (a0.2.1, (a0.2.2.1, (N.spec_l5Copy a0.2.2.2))))) none)
theorem spec_l8Copy_ok {ρ : Type} (k : TEntry → Option ρ) (a0 : TEntry) (l_a0 : (True ∧ (True ∧ (True ∧ lnL (fun _ => True) a0.2.2.2)))) (g : G.spec_l8Copy a0 = true) : spec_l8Copy k  a0 = k (N.spec_l8Copy a0) := by
  unfold G.spec_l8Copy at g
  simp only [spec_l8Copy, G.spec_l5Copy, N.spec_l5Copy, g, cond_true]
def OP_spec_l8Copy (f_spec_l5Copy : (List ByteArray) → (List ByteArray)) (g_spec_l5Copy : (List ByteArray) → Bool) : Orac := (orcX 106 [.val (.slice 9 .str)] (fun d => g_spec_l5Copy d.1) (fun d => [⟨(.slice 9 .str), f_spec_l5Copy d.1⟩]) nilO)
def O_spec_l8Copy : Orac := OP_spec_l8Copy N.spec_l5Copy G.spec_l5Copy
def spec_l8Copy_P {ρ : Type} (f_spec_l5Copy : (List ByteArray) → (List ByteArray)) (g_spec_l5Copy : (List ByteArray) → Bool) (k : TEntry → Option ρ) (a0 : TEntry) : Option ρ := (cond (g_spec_l5Copy a0.2.2.2) (k (a0.1, (a0.2.1, (a0.2.2.1, (f_spec_l5Copy a0.2.2.2))))) none)
theorem ok_spec_l8Copy : OracOk Try.prog sigs O_spec_l8Copy := (orcX_ok rfl rfl (fun d g => said_spec_l5Copy d.1 g) nilO_ok)
def A_spec_l8Copy : Ann := fun b => ⟨[], []⟩
theorem aP_spec_l8Copy (f_spec_l5Copy : (List ByteArray) → (List ByteArray)) (g_spec_l5Copy : (List ByteArray) → Bool) (n : Nat) (a0 : TEntry) : absF tab sigs (OP_spec_l8Copy f_spec_l5Copy g_spec_l5Copy) A_spec_l8Copy Try.f76 [(TyEntry, (.pair .no (.pair .no (.pair .no (.own 0)))))] n [.val TyEntry a0] = spec_l8Copy_P f_spec_l5Copy g_spec_l5Copy (fun r0 => some [⟨TyEntry, r0⟩])  a0 := by kernel_rfl
theorem a_spec_l8Copy (n : Nat) (a0 : TEntry) : absF tab sigs O_spec_l8Copy A_spec_l8Copy Try.f76 [(TyEntry, (.pair .no (.pair .no (.pair .no (.own 0)))))] n [.val TyEntry a0] = spec_l8Copy (fun r0 => some [⟨TyEntry, r0⟩])  a0 := aP_spec_l8Copy N.spec_l5Copy G.spec_l5Copy n a0
theorem said_spec_l8Copy (a0 : TEntry) (g : G.spec_l8Copy a0 = true) : Said Try.prog sigs_76 76 [.val TyEntry a0] [⟨TyEntry, N.spec_l8Copy a0⟩] := said_len (T := tab) (A := A_spec_l8Copy) tabOk ok_spec_l8Copy tabOk.follows Try.func76 (by kernel_rfl) (by kernel_rfl) (fun hl => ⟨0, (a_spec_l8Copy 0 a0).trans (spec_l8Copy_ok (ρ := Ret) (fun r0 => some [⟨TyEntry, r0⟩]) a0 hl.1 g)⟩)
/-! spec.BytesToInts -/
abbrev G.spec_BytesToInts (b : List Int) : Bool := decide (b.length ≤ 1048577)
abbrev N.spec_BytesToInts (b : List Int) : List Int := bytesInts b
def spec_BytesToInts_L0 {ρ : Type} (k : (List Int) → Option ρ) (L0 : (List Int) → Int → (List Int) → Option ρ) (v0_0 : (List Int)) (v0_1 : Int) (v0_2 : (List Int)) : Option ρ := (cond (decide (v0_1 < (List.length v0_0 : Int))) (cond (inRange v0_1 (List.length v0_0)) (cond (fit (List.length v0_2) (List.length [(IntKind.wrap .i64 (List.getD v0_0 (Int.toNat v0_1) (0 : Int)))])) (L0 v0_0 (IntKind.wrap .i64 (v0_1 + (1 : Int))) (List.append v0_2 [(IntKind.wrap .i64 (List.getD v0_0 (Int.toNat v0_1) (0 : Int)))])) none) none) (k v0_2))
def spec_BytesToInts {ρ : Type} (k : (List Int) → Option ρ) (L0 : (List Int) → Int → (List Int) → Option ρ) (a0 : (List Int)) : Option ρ := (L0 a0 (0 : Int) [(List.length a0 : Int)])
theorem spec_BytesToInts_ok {ρ : Type} (k : (List Int) → Option ρ) (a0 : (List Int)) (l_a0 : lnL (fun _ => True) a0) (g : G.spec_BytesToInts a0 = true) : ∃ n0, ∀ n, n0 ≤ n → ∀ (L0 : Nat → (List Int) → Int → (List Int) → Option ρ) (h0 : ∀ ( m : Nat) (v0_0 : (List Int)) (v0_1 : Int) (v0_2 : (List Int)), L0 (m + 1) v0_0 v0_1 v0_2 = spec_BytesToInts_L0 k (L0 m) v0_0 v0_1 v0_2), spec_BytesToInts k (L0 n) a0 = k (N.spec_BytesToInts a0) := by
  unfold G.spec_BytesToInts at g
  have hlen : a0.length ≤ 1048577 := of_decide_eq_true g
  refine ⟨a0.length + 1, fun n hn L0 h0 => ?_⟩
  refine (raw_foldl (a := a0) 0 (fun o x => o ++ [IntKind.wrap .i64 x]) (k := k) (s := [(a0.length : Int)]) (L := fun m i s => L0 m a0 i s) (R := fun i s c => spec_BytesToInts_L0 k (fun _ i s => c i s) a0 i s) (fun m i s => h0 m a0 i s) (fun j o => o.length ≤ j + 1) (fun j s c hj hI => ?_) (fun j s hj hI => by simp; exact hI) (fun s c => ?_) hn (by simp)).trans (by rw [foldl_app]; rfl)
  · have : j < big := by unfold big; omega
    have e3 : fit s.length 1 = true := fit_of (by omega)
    simp only [spec_BytesToInts_L0, lt_nat, inRange_nat, decide_eq_true hj, cond_true, Int.toNat_natCast, List.length_singleton, e3, wrap_succ this, List.append_eq]
  · simp [spec_BytesToInts_L0]
def O_spec_BytesToInts : Orac := nilO
theorem ok_spec_BytesToInts : OracOk Try.prog sigs O_spec_BytesToInts := nilO_ok
def A_spec_BytesToInts : Ann := fun b => cond (Nat.beq b 0) ⟨[(0, false), (3, true), (4, false)], []⟩ (⟨[], []⟩)
def S_spec_BytesToInts_0 (v0_0 : (List Int)) (v0_1 : Int) (v0_2 : (List Int)) : St := [(kT 0, some (.tv (.v (.slice 5 (.int .u8)) v0_0 .no))), (kT 3, some (.tv (.v (.slice 3 (.int .i64)) [] (.own 24)))), (kT 4, some (.tv (.v (.int .i64) v0_1 .no))), (kR 24, some (.row 3 (.int .i64) v0_2))]
noncomputable def L_spec_BytesToInts_0 (n m : Nat) : St → Option Ret := loopOf tab sigs O_spec_BytesToInts A_spec_BytesToInts Try.f119 [((.slice 3 (.int .i64)), (.own 0))] n (fun _ => 0) 0 m
theorem b_spec_BytesToInts_0 (n m : Nat) (v0_0 : (List Int)) (v0_1 : Int) (v0_2 : (List Int)) : L_spec_BytesToInts_0 n (m + 1) (S_spec_BytesToInts_0 v0_0 v0_1 v0_2) = spec_BytesToInts_L0 (fun r0 => some [⟨(.slice 3 (.int .i64)), r0⟩]) (fun v0_0 v0_1 v0_2 => L_spec_BytesToInts_0 n m (S_spec_BytesToInts_0 v0_0 v0_1 v0_2)) v0_0 v0_1 v0_2 := by kernel_rfl
theorem a_spec_BytesToInts (n : Nat) (a0 : (List Int)) : absF tab sigs O_spec_BytesToInts A_spec_BytesToInts Try.f119 [((.slice 3 (.int .i64)), (.own 0))] n [.val (.slice 5 (.int .u8)) a0] = spec_BytesToInts (fun r0 => some [⟨(.slice 3 (.int .i64)), r0⟩]) (fun v0_0 v0_1 v0_2 => L_spec_BytesToInts_0 n n (S_spec_BytesToInts_0 v0_0 v0_1 v0_2)) a0 := by kernel_rfl
theorem said_spec_BytesToInts (a0 : (List Int)) (g : G.spec_BytesToInts a0 = true) : Said Try.prog sigs_119 119 [.val (.slice 5 (.int .u8)) a0] [⟨(.slice 3 (.int .i64)), N.spec_BytesToInts a0⟩] := said_len (T := tab) (A := A_spec_BytesToInts) tabOk ok_spec_BytesToInts tabOk.follows Try.func119 (by kernel_rfl) (by kernel_rfl) (fun hl => let ⟨n, hn⟩ := spec_BytesToInts_ok (ρ := Ret) (fun r0 => some [⟨(.slice 3 (.int .i64)), r0⟩]) a0 hl.1 g; ⟨n, (a_spec_BytesToInts n a0).trans (hn n (Nat.le_refl n) (fun  m v0_0 v0_1 v0_2 => L_spec_BytesToInts_0 n  m (S_spec_BytesToInts_0 v0_0 v0_1 v0_2)) (fun  m v0_0 v0_1 v0_2 => b_spec_BytesToInts_0 n  m v0_0 v0_1 v0_2))⟩)
/-! spec.LabelInts -/
abbrev G.spec_LabelInts (s : ByteArray) : Bool := decide (s.size ≤ 1048576)
abbrev N.spec_LabelInts (s : ByteArray) : List Int := labelInts s
def spec_LabelInts {ρ : Type} (k : (List Int) → Option ρ) (a0 : ByteArray) : Option ρ := (cond (decide ((ByteArray.size a0 : Int) ≤ 549755813888)) (cond (G.spec_BytesToInts (bytesOf a0)) (k (N.spec_BytesToInts (bytesOf a0))) none) none)
theorem spec_LabelInts_ok {ρ : Type} (k : (List Int) → Option ρ) (a0 : ByteArray) (g : G.spec_LabelInts a0 = true) : spec_LabelInts k  a0 = k (N.spec_LabelInts a0) := by
  unfold G.spec_LabelInts at g
  have h : a0.size ≤ 1048576 := of_decide_eq_true g
  have h1 : decide ((a0.size : Int) ≤ 549755813888) = true := by simp; omega
  have h2 : G.spec_BytesToInts (bytesOf a0) = true := decide_eq_true (by rw [bytesOf_length]; omega)
  show cond _ (cond _ _ none) none = _
  rw [h1, h2]
  rfl
def OP_spec_LabelInts (f_spec_BytesToInts : (List Int) → (List Int)) (g_spec_BytesToInts : (List Int) → Bool) : Orac := (orcX 119 [.val (.slice 5 (.int .u8))] (fun d => g_spec_BytesToInts d.1) (fun d => [⟨(.slice 3 (.int .i64)), f_spec_BytesToInts d.1⟩]) nilO)
def O_spec_LabelInts : Orac := OP_spec_LabelInts N.spec_BytesToInts G.spec_BytesToInts
def spec_LabelInts_P {ρ : Type} (f_spec_BytesToInts : (List Int) → (List Int)) (g_spec_BytesToInts : (List Int) → Bool) (k : (List Int) → Option ρ) (a0 : ByteArray) : Option ρ := (cond (decide ((ByteArray.size a0 : Int) ≤ 549755813888)) (cond (g_spec_BytesToInts (bytesOf a0)) (k (f_spec_BytesToInts (bytesOf a0))) none) none)
theorem ok_spec_LabelInts : OracOk Try.prog sigs O_spec_LabelInts := (orcX_ok rfl rfl (fun d g => said_spec_BytesToInts d.1 g) nilO_ok)
def A_spec_LabelInts : Ann := fun b => ⟨[], []⟩
theorem aP_spec_LabelInts (f_spec_BytesToInts : (List Int) → (List Int)) (g_spec_BytesToInts : (List Int) → Bool) (n : Nat) (a0 : ByteArray) : absF tab sigs (OP_spec_LabelInts f_spec_BytesToInts g_spec_BytesToInts) A_spec_LabelInts Try.f109 [((.slice 3 (.int .i64)), (.own 0))] n [.val .str a0] = spec_LabelInts_P f_spec_BytesToInts g_spec_BytesToInts (fun r0 => some [⟨(.slice 3 (.int .i64)), r0⟩])  a0 := by kernel_rfl
theorem a_spec_LabelInts (n : Nat) (a0 : ByteArray) : absF tab sigs O_spec_LabelInts A_spec_LabelInts Try.f109 [((.slice 3 (.int .i64)), (.own 0))] n [.val .str a0] = spec_LabelInts (fun r0 => some [⟨(.slice 3 (.int .i64)), r0⟩])  a0 := aP_spec_LabelInts N.spec_BytesToInts G.spec_BytesToInts n a0
theorem said_spec_LabelInts (a0 : ByteArray) (g : G.spec_LabelInts a0 = true) : Said Try.prog sigs_109 109 [.val .str a0] [⟨(.slice 3 (.int .i64)), N.spec_LabelInts a0⟩] := said_len (T := tab) (A := A_spec_LabelInts) tabOk ok_spec_LabelInts tabOk.follows Try.func109 (by kernel_rfl) (by kernel_rfl) (fun hl => ⟨0, (a_spec_LabelInts 0 a0).trans (spec_LabelInts_ok (ρ := Ret) (fun r0 => some [⟨(.slice 3 (.int .i64)), r0⟩]) a0 g)⟩)
/-! spec.EntryInts -/
abbrev G.spec_EntryInts (e : TEntry) : Bool := decide (wE e ≤ 1048576)
abbrev N.spec_EntryInts (e : TEntry) : List Int := entryInts e
def spec_EntryInts_L0 {ρ : Type} (k : (List Int) → Option ρ) (L0 : Int → TEntry → (List Int) → Option ρ) (v0_0 : Int) (v0_1 : TEntry) (v0_2 : (List Int)) : Option ρ := (cond (decide (v0_0 < (List.length v0_1.2.2.2 : Int))) (cond (inRange v0_0 (List.length v0_1.2.2.2)) (cond (G.spec_LabelInts (List.getD v0_1.2.2.2 (Int.toNat v0_0) ByteArray.empty)) (cond (fit (List.length v0_2) (List.length (N.spec_LabelInts (List.getD v0_1.2.2.2 (Int.toNat v0_0) ByteArray.empty)))) (L0 (IntKind.wrap .i64 (v0_0 + (1 : Int))) v0_1 (List.append v0_2 (N.spec_LabelInts (List.getD v0_1.2.2.2 (Int.toNat v0_0) ByteArray.empty)))) none) none) none) (k v0_2))
def spec_EntryInts {ρ : Type} (k : (List Int) → Option ρ) (L0 : Int → TEntry → (List Int) → Option ρ) (a0 : TEntry) : Option ρ := (cond (G.spec_LabelInts a0.1) (cond (fit (List.length (N.spec_LabelInts a0.1)) (List.length [a0.2.1, a0.2.2.1, (List.length a0.2.2.2 : Int)])) (L0 (0 : Int) a0 (List.append (N.spec_LabelInts a0.1) [a0.2.1, a0.2.2.1, (List.length a0.2.2.2 : Int)])) none) none)
theorem spec_EntryInts_ok {ρ : Type} (k : (List Int) → Option ρ) (a0 : TEntry) (l_a0 : (True ∧ (True ∧ (True ∧ lnL (fun _ => True) a0.2.2.2)))) (g : G.spec_EntryInts a0 = true) : ∃ n0, ∀ n, n0 ≤ n → ∀ (L0 : Nat → Int → TEntry → (List Int) → Option ρ) (h0 : ∀ ( m : Nat) (v0_0 : Int) (v0_1 : TEntry) (v0_2 : (List Int)), L0 (m + 1) v0_0 v0_1 v0_2 = spec_EntryInts_L0 k (L0 m) v0_0 v0_1 v0_2), spec_EntryInts k (L0 n) a0 = k (N.spec_EntryInts a0) := by
  unfold G.spec_EntryInts at g
  have hw : wE a0 ≤ 1048576 := of_decide_eq_true g
  have hw2 : a0.1.size + (a0.2.2.2.length + wsum ByteArray.size a0.2.2.2) ≤ 1048576 := hw
  have g1 : decide (a0.1.size ≤ 1048576) = true := by simp; omega
  have f1 : fit (labelInts a0.1).length 3 = true := fit_of (by rw [labelInts_len]; omega)
  refine ⟨a0.2.2.2.length + 1, fun n hn L0 h0 => ?_⟩
  show cond (decide (a0.1.size ≤ 1048576)) (cond (fit (labelInts a0.1).length 3) (L0 n 0 a0 (labelInts a0.1 ++ [a0.2.1, a0.2.2.1, (a0.2.2.2.length : Int)])) none) none = k (entryInts a0)
  rw [g1, f1]
  have key := raw_run0 (σ := List Int) (L := fun m i s => L0 m i a0 s) (R := fun i s c => spec_EntryInts_L0 k (fun i _ s => c i s) i a0 s) (fun m i s => h0 m i a0 s) a0.2.2.2.length (fun j s => s.length + wP (a0.2.2.2.drop j) ≤ 4194304) (fun j s => k (s ++ (a0.2.2.2.drop j).flatMap labelInts)) (fun j s c hj hI hc => ?_) (fun s c _ => ?_) hn (s := labelInts a0.1 ++ [a0.2.1, a0.2.2.1, (a0.2.2.2.length : Int)]) (by rw [List.drop_zero, List.length_append, labelInts_len]; unfold wP; simp; omega)
  · rw [List.drop_zero] at key
    exact key
  · have hd := drop_cons ByteArray.empty hj
    have hp : wP (a0.2.2.2.drop j) = 1 + (a0.2.2.2.getD j ByteArray.empty).size + wP (a0.2.2.2.drop (j + 1)) := by
      rw [hd]
      unfold wP
      rw [List.length_cons]
      show _ + (_ + _) = _
      omega
    have hm := wsum_mem (wt := ByteArray.size) (getD_mem (d := ByteArray.empty) hj)
    have g2 : decide ((a0.2.2.2.getD j ByteArray.empty).size ≤ 1048576) = true := by simp only [decide_eq_true_eq]; omega
    have e3 : fit s.length (labelInts (a0.2.2.2.getD j ByteArray.empty)).length = true := fit_of (by rw [labelInts_len]; omega)
    have := hc (s ++ labelInts (a0.2.2.2.getD j ByteArray.empty)) (by rw [List.length_append, labelInts_len]; omega)
    simp only [spec_EntryInts_L0, lt_nat, inRange_nat, decide_eq_true hj, cond_true, Int.toNat_natCast, G.spec_LabelInts, N.spec_LabelInts, g2, e3, wrap_succ (j := j) (by unfold big; omega), List.append_eq, this]
    rw [hd]
    simp
  · simp [spec_EntryInts_L0]
def OP_spec_EntryInts (f_spec_LabelInts : ByteArray → (List Int)) (g_spec_LabelInts : ByteArray → Bool) : Orac := (orcX 109 [.val .str] (fun d => g_spec_LabelInts d.1) (fun d => [⟨(.slice 3 (.int .i64)), f_spec_LabelInts d.1⟩]) nilO)
def O_spec_EntryInts : Orac := OP_spec_EntryInts N.spec_LabelInts G.spec_LabelInts
def spec_EntryInts_P_L0 {ρ : Type} (f_spec_LabelInts : ByteArray → (List Int)) (g_spec_LabelInts : ByteArray → Bool) (k : (List Int) → Option ρ) (L0 : Int → TEntry → (List Int) → Option ρ) (v0_0 : Int) (v0_1 : TEntry) (v0_2 : (List Int)) : Option ρ := (cond (decide (v0_0 < (List.length v0_1.2.2.2 : Int))) (cond (inRange v0_0 (List.length v0_1.2.2.2)) (cond (g_spec_LabelInts (List.getD v0_1.2.2.2 (Int.toNat v0_0) ByteArray.empty)) (cond (fit (List.length v0_2) (List.length (f_spec_LabelInts (List.getD v0_1.2.2.2 (Int.toNat v0_0) ByteArray.empty)))) (L0 (IntKind.wrap .i64 (v0_0 + (1 : Int))) v0_1 (List.append v0_2 (f_spec_LabelInts (List.getD v0_1.2.2.2 (Int.toNat v0_0) ByteArray.empty)))) none) none) none) (k v0_2))
def spec_EntryInts_P {ρ : Type} (f_spec_LabelInts : ByteArray → (List Int)) (g_spec_LabelInts : ByteArray → Bool) (k : (List Int) → Option ρ) (L0 : Int → TEntry → (List Int) → Option ρ) (a0 : TEntry) : Option ρ := (cond (g_spec_LabelInts a0.1) (cond (fit (List.length (f_spec_LabelInts a0.1)) (List.length [a0.2.1, a0.2.2.1, (List.length a0.2.2.2 : Int)])) (L0 (0 : Int) a0 (List.append (f_spec_LabelInts a0.1) [a0.2.1, a0.2.2.1, (List.length a0.2.2.2 : Int)])) none) none)
theorem ok_spec_EntryInts : OracOk Try.prog sigs O_spec_EntryInts := (orcX_ok rfl rfl (fun d g => said_spec_LabelInts d.1 g) nilO_ok)
def A_spec_EntryInts : Ann := fun b => cond (Nat.beq b 0) ⟨[(1, false), (3, true), (4, false)], [(1, false)]⟩ (⟨[], []⟩)
def S_spec_EntryInts_0 (v0_0 : Int) (v0_1 : TEntry) (v0_2 : (List Int)) : St := [(kT 1, some (.tv (.box 1 []))), (kT 3, some (.tv (.v (.slice 3 (.int .i64)) [] (.own 24)))), (kT 4, some (.tv (.v (.int .i64) v0_0 .no))), (kB 1, some (.box TyEntry v0_1 .no)), (kR 24, some (.row 3 (.int .i64) v0_2))]
noncomputable def L_P_spec_EntryInts_0 (f_spec_LabelInts : ByteArray → (List Int)) (g_spec_LabelInts : ByteArray → Bool) (n m : Nat) : St → Option Ret := loopOf tab sigs (OP_spec_EntryInts f_spec_LabelInts g_spec_LabelInts) A_spec_EntryInts Try.f87 [((.slice 3 (.int .i64)), (.own 0))] n (fun _ => 0) 0 m
noncomputable def L_spec_EntryInts_0 (n m : Nat) : St → Option Ret := L_P_spec_EntryInts_0 N.spec_LabelInts G.spec_LabelInts n m
theorem bP_spec_EntryInts_0 (f_spec_LabelInts : ByteArray → (List Int)) (g_spec_LabelInts : ByteArray → Bool) (n m : Nat) (v0_0 : Int) (v0_1 : TEntry) (v0_2 : (List Int)) : L_P_spec_EntryInts_0 f_spec_LabelInts g_spec_LabelInts n (m + 1) (S_spec_EntryInts_0 v0_0 v0_1 v0_2) = spec_EntryInts_P_L0 f_spec_LabelInts g_spec_LabelInts (fun r0 => some [⟨(.slice 3 (.int .i64)), r0⟩]) (fun v0_0 v0_1 v0_2 => L_P_spec_EntryInts_0 f_spec_LabelInts g_spec_LabelInts n m (S_spec_EntryInts_0 v0_0 v0_1 v0_2)) v0_0 v0_1 v0_2 := by kernel_rfl
theorem b_spec_EntryInts_0 (n m : Nat) (v0_0 : Int) (v0_1 : TEntry) (v0_2 : (List Int)) : L_spec_EntryInts_0 n (m + 1) (S_spec_EntryInts_0 v0_0 v0_1 v0_2) = spec_EntryInts_L0 (fun r0 => some [⟨(.slice 3 (.int .i64)), r0⟩]) (fun v0_0 v0_1 v0_2 => L_spec_EntryInts_0 n m (S_spec_EntryInts_0 v0_0 v0_1 v0_2)) v0_0 v0_1 v0_2 := bP_spec_EntryInts_0 N.spec_LabelInts G.spec_LabelInts n m v0_0 v0_1 v0_2
theorem aP_spec_EntryInts (f_spec_LabelInts : ByteArray → (List Int)) (g_spec_LabelInts : ByteArray → Bool) (n : Nat) (a0 : TEntry) : absF tab sigs (OP_spec_EntryInts f_spec_LabelInts g_spec_LabelInts) A_spec_EntryInts Try.f87 [((.slice 3 (.int .i64)), (.own 0))] n [.val TyEntry a0] = spec_EntryInts_P f_spec_LabelInts g_spec_LabelInts (fun r0 => some [⟨(.slice 3 (.int .i64)), r0⟩]) (fun v0_0 v0_1 v0_2 => L_P_spec_EntryInts_0 f_spec_LabelInts g_spec_LabelInts n n (S_spec_EntryInts_0 v0_0 v0_1 v0_2)) a0 := by kernel_rfl
theorem a_spec_EntryInts (n : Nat) (a0 : TEntry) : absF tab sigs O_spec_EntryInts A_spec_EntryInts Try.f87 [((.slice 3 (.int .i64)), (.own 0))] n [.val TyEntry a0] = spec_EntryInts (fun r0 => some [⟨(.slice 3 (.int .i64)), r0⟩]) (fun v0_0 v0_1 v0_2 => L_spec_EntryInts_0 n n (S_spec_EntryInts_0 v0_0 v0_1 v0_2)) a0 := aP_spec_EntryInts N.spec_LabelInts G.spec_LabelInts n a0
theorem said_spec_EntryInts (a0 : TEntry) (g : G.spec_EntryInts a0 = true) : Said Try.prog sigs_87 87 [.val TyEntry a0] [⟨(.slice 3 (.int .i64)), N.spec_EntryInts a0⟩] := said_len (T := tab) (A := A_spec_EntryInts) tabOk ok_spec_EntryInts tabOk.follows Try.func87 (by kernel_rfl) (by kernel_rfl) (fun hl => let ⟨n, hn⟩ := spec_EntryInts_ok (ρ := Ret) (fun r0 => some [⟨(.slice 3 (.int .i64)), r0⟩]) a0 hl.1 g; ⟨n, (a_spec_EntryInts n a0).trans (hn n (Nat.le_refl n) (fun  m v0_0 v0_1 v0_2 => L_spec_EntryInts_0 n  m (S_spec_EntryInts_0 v0_0 v0_1 v0_2)) (fun  m v0_0 v0_1 v0_2 => b_spec_EntryInts_0 n  m v0_0 v0_1 v0_2))⟩)
end Go.Proofs.Ythegggkfngnehaa.Ref
