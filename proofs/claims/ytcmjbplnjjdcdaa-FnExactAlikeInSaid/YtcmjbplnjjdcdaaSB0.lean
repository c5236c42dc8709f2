/- Functions of the program: what each computes, and that it does so.
   Conditions: as each theorem states. -/
import Derived.Test.YtcmjbplnjjdcdaaSA
import Derived.WalkKit
import Derived.Lib.Bytealg
set_option linter.unusedVariables false
set_option linter.unusedSimpArgs false
set_option maxRecDepth 100000
namespace Go.Proofs.Ytcmjbplnjjdcdaa.Ref
open Go.RowKit Go.Proofs.YtcmjbplnjjdcdaaW.PrintWords Go.Proofs.YtcmjbplnjjdcdaaW.PrintLast
abbrev G.laws_szStringS (a : List ByteArray) (left : Int) : Bool := gL left && bP a
abbrev N.laws_szStringS (a : List ByteArray) (left : Int) : Int := sub1 (wP a) left
def laws_szStringS_L0 {ρ : Type} (k : Int → Option ρ) (L0 : (List ByteArray) → Int → Int → Option ρ) (v0_0 : (List ByteArray)) (v0_1 : Int) (v0_2 : Int) : Option ρ := (cond (decide (v0_2 < (List.length v0_0 : Int))) (cond (inRange v0_2 (List.length v0_0)) (cond (decide ((IntKind.wrap .i64 (v0_1 - (ByteArray.size (List.getD v0_0 (Int.toNat v0_2) ByteArray.empty) : Int))) < (0 : Int))) (k (-1 : Int)) (L0 v0_0 (IntKind.wrap .i64 (v0_1 - (ByteArray.size (List.getD v0_0 (Int.toNat v0_2) ByteArray.empty) : Int))) (IntKind.wrap .i64 (v0_2 + (1 : Int))))) none) (k v0_1))
def laws_szStringS {ρ : Type} (k : Int → Option ρ) (L0 : (List ByteArray) → Int → Int → Option ρ) (a0 : (List ByteArray)) (a1 : Int) : Option ρ := (cond (decide ((IntKind.wrap .i64 (a1 - (List.length a0 : Int))) < (0 : Int))) (k (-1 : Int)) (L0 a0 (IntKind.wrap .i64 (a1 - (List.length a0 : Int))) (0 : Int)))
theorem laws_szStringS_ok {ρ : Type} (k : Int → Option ρ) (a0 : (List ByteArray)) (a1 : Int) (l_a0 : lnL (fun _ => True) a0) (g : G.laws_szStringS a0 a1 = true) : ∃ n0, ∀ n, n0 ≤ n → ∀ (L0 : Nat → (List ByteArray) → Int → Int → Option ρ) (h0 : ∀ ( m : Nat) (v0_0 : (List ByteArray)) (v0_1 : Int) (v0_2 : Int), L0 (m + 1) v0_0 v0_1 v0_2 = laws_szStringS_L0 k (L0 m) v0_0 v0_1 v0_2), laws_szStringS k (L0 n) a0 a1 = k (N.laws_szStringS a0 a1) := by
  unfold G.laws_szStringS at g
  replace g := (Bool.and_eq_true _ _).mp g
  refine ⟨a0.length + 1, fun n hn L0 h0 => ?_⟩
  refine sz_first (c := fun l => L0 n a0 l 0) g.1 l_a0.1 (fun g' => ?_)
  have g'' : 0 ≤ sub1 a0.length a1 ∧ sub1 a0.length a1 ≤ 1048576 := by simpa only [gL, Bool.and_eq_true, decide_eq_true_eq] using g'
  refine (loop_l (a := a0) (d := ByteArray.empty) l_a0.1 (L := fun m i s => L0 m a0 s i) (f := fun i x s c => cond (decide (IntKind.wrap .i64 (s - (x.size : Int)) < 0)) (k (-1)) (c (IntKind.wrap .i64 (s - (x.size : Int))))) (e := k) (fun m i s => h0 m a0 s i) hn).trans ?_
  refine foldI_sz (fun x => x.size ≤ 9223372036854775807) (fun i x s c hx hs0 hs1 => ?_) (fun s => rfl) a0 0 _ (fun x hx => by simpa using List.all_eq_true.1 g.2 x hx) g''.1 g''.2
  rw [wrap_sub hs0 hs1 (by omega) (by omega)]
  congr 1
  simp only [decide_eq_decide]
  omega
def O_laws_szStringS : Orac := nilO
theorem ok_laws_szStringS : OracOk Try.prog sigs O_laws_szStringS := nilO_ok
def A_laws_szStringS : Ann := fun b => cond (Nat.beq b 0) ⟨[(0, false), (1, false), (5, false)], []⟩ (⟨[], []⟩)
def S_laws_szStringS_0 (v0_0 : (List ByteArray)) (v0_1 : Int) (v0_2 : Int) : St := [(kT 0, some (.tv (.v (.slice 9 .str) v0_0 .no))), (kT 1, some (.tv (.v (.int .i64) v0_1 .no))), (kT 5, some (.tv (.v (.int .i64) v0_2 .no)))]
noncomputable def L_laws_szStringS_0 (n m : Nat) : St → Option Ret := loopOf tab sigs O_laws_szStringS A_laws_szStringS Try.f21 [((.int .i64), .no)] n (fun _ => 0) 0 m
theorem b_laws_szStringS_0 (n m : Nat) (v0_0 : (List ByteArray)) (v0_1 : Int) (v0_2 : Int) : L_laws_szStringS_0 n (m + 1) (S_laws_szStringS_0 v0_0 v0_1 v0_2) = laws_szStringS_L0 (fun r0 => some [⟨(.int .i64), r0⟩]) (fun v0_0 v0_1 v0_2 => L_laws_szStringS_0 n m (S_laws_szStringS_0 v0_0 v0_1 v0_2)) v0_0 v0_1 v0_2 := by kernel_rfl
theorem a_laws_szStringS (n : Nat) (a0 : (List ByteArray)) (a1 : Int) : absF tab sigs O_laws_szStringS A_laws_szStringS Try.f21 [((.int .i64), .no)] n [.val (.slice 9 .str) a0, .val (.int .i64) a1] = laws_szStringS (fun r0 => some [⟨(.int .i64), r0⟩]) (fun v0_0 v0_1 v0_2 => L_laws_szStringS_0 n n (S_laws_szStringS_0 v0_0 v0_1 v0_2)) a0 a1 := by kernel_rfl
theorem said_laws_szStringS (a0 : (List ByteArray)) (a1 : Int) (g : G.laws_szStringS a0 a1 = true) : Said Try.prog sigs_21 21 [.val (.slice 9 .str) a0, .val (.int .i64) a1] [⟨(.int .i64), N.laws_szStringS a0 a1⟩] := said_len (T := tab) (A := A_laws_szStringS) tabOk ok_laws_szStringS tabOk.follows Try.func21 (by kernel_rfl) (by kernel_rfl) (fun hl => let ⟨n, hn⟩ := laws_szStringS_ok (ρ := Ret) (fun r0 => some [⟨(.int .i64), r0⟩]) a0 a1 hl.1 g; ⟨n, (a_laws_szStringS n a0 a1).trans (hn n (Nat.le_refl n) (fun  m v0_0 v0_1 v0_2 => L_laws_szStringS_0 n  m (S_laws_szStringS_0 v0_0 v0_1 v0_2)) (fun  m v0_0 v0_1 v0_2 => b_laws_szStringS_0 n  m v0_0 v0_1 v0_2))⟩)
abbrev G.laws_szEntry (a : TEntry) (left : Int) : Bool := gL left && bE a
abbrev N.laws_szEntry (a : TEntry) (left : Int) : Int := sub1 (wE a) left
def laws_szEntry_P {ρ : Type} (f0 : (List ByteArray) → Int → Int) (g0 : (List ByteArray) → Int → Bool) (k : Int → Option ρ) (a0 : TEntry) (a1 : Int) : Option ρ := (cond (decide ((IntKind.wrap .i64 (a1 - (ByteArray.size a0.1 : Int))) < (0 : Int))) (k (-1 : Int)) (cond (g0 a0.2.2.2 (IntKind.wrap .i64 (a1 - (ByteArray.size a0.1 : Int)))) (cond (decide ((f0 a0.2.2.2 (IntKind.wrap .i64 (a1 - (ByteArray.size a0.1 : Int)))) < (0 : Int))) (k (-1 : Int)) (k (f0 a0.2.2.2 (IntKind.wrap .i64 (a1 - (ByteArray.size a0.1 : Int)))))) none))
def laws_szEntry {ρ : Type} (k : Int → Option ρ) (a0 : TEntry) (a1 : Int) : Option ρ := laws_szEntry_P N.laws_szStringS G.laws_szStringS k a0 a1
theorem laws_szEntry_ok {ρ : Type} (k : Int → Option ρ) (a0 : TEntry) (a1 : Int) (l_a0 : (True ∧ (True ∧ (True ∧ lnL (fun _ => True) a0.2.2.2)))) (g : G.laws_szEntry a0 a1 = true) : laws_szEntry k  a0 a1 = k (N.laws_szEntry a0 a1) := by
  unfold G.laws_szEntry at g
  replace g := (Bool.and_eq_true _ _).mp g
  have g2 := (Bool.and_eq_true _ _).mp g.2
  refine sz_first (c := fun l => cond (gL l && bP a0.2.2.2) (cond (decide (sub1 (wP a0.2.2.2) l < 0)) (k (-1)) (k (sub1 (wP a0.2.2.2) l))) none) g.1 (of_decide_eq_true g2.1) (fun g1 => ?_)
  rw [g1, g2.2]
  exact sz_last
def OP_laws_szEntry (f0 : (List ByteArray) → Int → Int) (g0 : (List ByteArray) → Int → Bool) : Orac := (orcX 21 [.val (.slice 9 .str), .val (.int .i64)] (fun d => g0 d.1 d.2.1) (fun d => [⟨(.int .i64), f0 d.1 d.2.1⟩]) nilO)
def O_laws_szEntry : Orac := OP_laws_szEntry N.laws_szStringS G.laws_szStringS
theorem ok_laws_szEntry : OracOk Try.prog sigs O_laws_szEntry := (orcX_ok rfl rfl (fun d g => said_laws_szStringS d.1 d.2.1 g) nilO_ok)
def A_laws_szEntry : Ann := fun b => ⟨[], []⟩
theorem aP_laws_szEntry (f0 : (List ByteArray) → Int → Int) (g0 : (List ByteArray) → Int → Bool) (n : Nat) (a0 : TEntry) (a1 : Int) : absF tab sigs (OP_laws_szEntry f0 g0) A_laws_szEntry Try.f6 [((.int .i64), .no)] n [.val TyEntry a0, .val (.int .i64) a1] = laws_szEntry_P f0 g0 (fun r0 => some [⟨(.int .i64), r0⟩])  a0 a1 := by kernel_rfl
theorem said_laws_szEntry (a0 : TEntry) (a1 : Int) (g : G.laws_szEntry a0 a1 = true) : Said Try.prog sigs_6 6 [.val TyEntry a0, .val (.int .i64) a1] [⟨(.int .i64), N.laws_szEntry a0 a1⟩] := said_len (T := tab) (A := A_laws_szEntry) tabOk ok_laws_szEntry tabOk.follows Try.func6 (by kernel_rfl) (by kernel_rfl) (fun hl => ⟨0, (aP_laws_szEntry N.laws_szStringS G.laws_szStringS 0 a0 a1).trans (laws_szEntry_ok (ρ := Ret) (fun r0 => some [⟨(.int .i64), r0⟩]) a0 a1 hl.1 g)⟩)
abbrev G.laws_szEntryS (a : List TEntry) (left : Int) : Bool := gL left && a.all bE
abbrev N.laws_szEntryS (a : List TEntry) (left : Int) : Int := sub1 (wEs a) left
def laws_szEntryS_P_L0 {ρ : Type} (f0 : TEntry → Int → Int) (g0 : TEntry → Int → Bool) (k : Int → Option ρ) (L0 : (List TEntry) → Int → Int → Option ρ) (v0_0 : (List TEntry)) (v0_1 : Int) (v0_2 : Int) : Option ρ := (cond (decide (v0_2 < (List.length v0_0 : Int))) (cond (inRange v0_2 (List.length v0_0)) (cond (g0 (List.getD v0_0 (Int.toNat v0_2) (ByteArray.empty, ((0 : Int), ((0 : Int), [])))) v0_1) (cond (decide ((f0 (List.getD v0_0 (Int.toNat v0_2) (ByteArray.empty, ((0 : Int), ((0 : Int), [])))) v0_1) < (0 : Int))) (k (-1 : Int)) (L0 v0_0 (f0 (List.getD v0_0 (Int.toNat v0_2) (ByteArray.empty, ((0 : Int), ((0 : Int), [])))) v0_1) (IntKind.wrap .i64 (v0_2 + (1 : Int))))) none) none) (k v0_1))
def laws_szEntryS_P {ρ : Type} (f0 : TEntry → Int → Int) (g0 : TEntry → Int → Bool) (k : Int → Option ρ) (L0 : (List TEntry) → Int → Int → Option ρ) (a0 : (List TEntry)) (a1 : Int) : Option ρ := (cond (decide ((IntKind.wrap .i64 (a1 - (List.length a0 : Int))) < (0 : Int))) (k (-1 : Int)) (L0 a0 (IntKind.wrap .i64 (a1 - (List.length a0 : Int))) (0 : Int)))
def laws_szEntryS_L0 {ρ : Type} (k : Int → Option ρ) (L0 : (List TEntry) → Int → Int → Option ρ) (v0_0 : (List TEntry)) (v0_1 : Int) (v0_2 : Int) : Option ρ := laws_szEntryS_P_L0 N.laws_szEntry G.laws_szEntry k L0 v0_0 v0_1 v0_2
def laws_szEntryS {ρ : Type} (k : Int → Option ρ) (L0 : (List TEntry) → Int → Int → Option ρ) (a0 : (List TEntry)) (a1 : Int) : Option ρ := laws_szEntryS_P N.laws_szEntry G.laws_szEntry k L0 a0 a1
theorem laws_szEntryS_ok {ρ : Type} (k : Int → Option ρ) (a0 : (List TEntry)) (a1 : Int) (l_a0 : lnL (fun y => (True ∧ (True ∧ (True ∧ lnL (fun _ => True) y.2.2.2)))) a0) (g : G.laws_szEntryS a0 a1 = true) : ∃ n0, ∀ n, n0 ≤ n → ∀ (L0 : Nat → (List TEntry) → Int → Int → Option ρ) (h0 : ∀ ( m : Nat) (v0_0 : (List TEntry)) (v0_1 : Int) (v0_2 : Int), L0 (m + 1) v0_0 v0_1 v0_2 = laws_szEntryS_L0 k (L0 m) v0_0 v0_1 v0_2), laws_szEntryS k (L0 n) a0 a1 = k (N.laws_szEntryS a0 a1) := by
  unfold G.laws_szEntryS at g
  replace g := (Bool.and_eq_true _ _).mp g
  refine ⟨a0.length + 1, fun n hn L0 h0 => ?_⟩
  refine sz_first (c := fun l => L0 n a0 l 0) g.1 l_a0.1 (fun g' => ?_)
  have g'' : 0 ≤ sub1 a0.length a1 ∧ sub1 a0.length a1 ≤ 1048576 := by simpa only [gL, Bool.and_eq_true, decide_eq_true_eq] using g'
  refine (loop_l (a := a0) (d := (ByteArray.empty, ((0 : Int), ((0 : Int), [])))) l_a0.1 (L := fun m i s => L0 m a0 s i) (f := fun i x s c => cond (gL s && bE x) (cond (decide (sub1 (wE x) s < 0)) (k (-1)) (c (sub1 (wE x) s))) none) (e := k) (fun m i s => h0 m a0 s i) hn).trans ?_
  refine foldI_sz (fun x => bE x = true) (fun i x s c hx hs0 hs1 => ?_) (fun s => rfl) a0 0 _ (fun x hx => List.all_eq_true.1 g.2 x hx) g''.1 g''.2
  have e1 : gL s = true := by simp [gL, hs0, hs1]
  rw [e1, hx]
  show cond (decide (sub1 (wE x) s < 0)) _ _ = _
  by_cases h : s < (wE x : Int)
  · have h2 := (sub1_neg (w := wE x) hs0).2 h
    simp [h, h2]
  · have h2 : ¬ sub1 (wE x) s < 0 := fun h3 => h ((sub1_neg hs0).1 h3)
    rw [decide_eq_false h2, decide_eq_false h, sub1_pos (w := wE x) (left := s) (by omega)]
def OP_laws_szEntryS (f0 : TEntry → Int → Int) (g0 : TEntry → Int → Bool) : Orac := (orcX 6 [.val TyEntry, .val (.int .i64)] (fun d => g0 d.1 d.2.1) (fun d => [⟨(.int .i64), f0 d.1 d.2.1⟩]) nilO)
def O_laws_szEntryS : Orac := OP_laws_szEntryS N.laws_szEntry G.laws_szEntry
theorem ok_laws_szEntryS : OracOk Try.prog sigs O_laws_szEntryS := (orcX_ok rfl rfl (fun d g => said_laws_szEntry d.1 d.2.1 g) nilO_ok)
def A_laws_szEntryS : Ann := fun b => cond (Nat.beq b 0) ⟨[(0, false), (1, false), (5, false)], []⟩ (⟨[], []⟩)
def S_laws_szEntryS_0 (v0_0 : (List TEntry)) (v0_1 : Int) (v0_2 : Int) : St := [(kT 0, some (.tv (.v (.slice 25 TyEntry) v0_0 .no))), (kT 1, some (.tv (.v (.int .i64) v0_1 .no))), (kT 5, some (.tv (.v (.int .i64) v0_2 .no)))]
noncomputable def L_P_laws_szEntryS_0 (f0 : TEntry → Int → Int) (g0 : TEntry → Int → Bool) (n m : Nat) : St → Option Ret := loopOf tab sigs (OP_laws_szEntryS f0 g0) A_laws_szEntryS Try.f5 [((.int .i64), .no)] n (fun _ => 0) 0 m
theorem bP_laws_szEntryS_0 (f0 : TEntry → Int → Int) (g0 : TEntry → Int → Bool) (n m : Nat) (v0_0 : (List TEntry)) (v0_1 : Int) (v0_2 : Int) : L_P_laws_szEntryS_0 f0 g0 n (m + 1) (S_laws_szEntryS_0 v0_0 v0_1 v0_2) = laws_szEntryS_P_L0 f0 g0 (fun r0 => some [⟨(.int .i64), r0⟩]) (fun v0_0 v0_1 v0_2 => L_P_laws_szEntryS_0 f0 g0 n m (S_laws_szEntryS_0 v0_0 v0_1 v0_2)) v0_0 v0_1 v0_2 := by kernel_rfl
theorem aP_laws_szEntryS (f0 : TEntry → Int → Int) (g0 : TEntry → Int → Bool) (n : Nat) (a0 : (List TEntry)) (a1 : Int) : absF tab sigs (OP_laws_szEntryS f0 g0) A_laws_szEntryS Try.f5 [((.int .i64), .no)] n [.val (.slice 25 TyEntry) a0, .val (.int .i64) a1] = laws_szEntryS_P f0 g0 (fun r0 => some [⟨(.int .i64), r0⟩]) (fun v0_0 v0_1 v0_2 => L_P_laws_szEntryS_0 f0 g0 n n (S_laws_szEntryS_0 v0_0 v0_1 v0_2)) a0 a1 := by kernel_rfl
theorem said_laws_szEntryS (a0 : (List TEntry)) (a1 : Int) (g : G.laws_szEntryS a0 a1 = true) : Said Try.prog sigs_5 5 [.val (.slice 25 TyEntry) a0, .val (.int .i64) a1] [⟨(.int .i64), N.laws_szEntryS a0 a1⟩] := said_len (T := tab) (A := A_laws_szEntryS) tabOk ok_laws_szEntryS tabOk.follows Try.func5 (by kernel_rfl) (by kernel_rfl) (fun hl => let ⟨n, hn⟩ := laws_szEntryS_ok (ρ := Ret) (fun r0 => some [⟨(.int .i64), r0⟩]) a0 a1 hl.1 g; ⟨n, (aP_laws_szEntryS N.laws_szEntry G.laws_szEntry n a0 a1).trans (hn n (Nat.le_refl n) (fun  m v0_0 v0_1 v0_2 => L_P_laws_szEntryS_0 N.laws_szEntry G.laws_szEntry n  m (S_laws_szEntryS_0 v0_0 v0_1 v0_2)) (fun  m v0_0 v0_1 v0_2 => bP_laws_szEntryS_0 N.laws_szEntry G.laws_szEntry n  m v0_0 v0_1 v0_2))⟩)
abbrev G.laws_toStringS (a : List ByteArray) : Bool := decide (a.length ≤ 1048576)
abbrev N.laws_toStringS (a : List ByteArray) : List ByteArray := a
def laws_toStringS_L0 {ρ : Type} (k : (List ByteArray) → Option ρ) (L0 : (List ByteArray) → Int → (List ByteArray) → Option ρ) (v0_0 : (List ByteArray)) (v0_1 : Int) (v0_2 : (List ByteArray)) : Option ρ := (cond (decide (v0_1 < (List.length v0_0 : Int))) (cond (inRange v0_1 (List.length v0_0)) (cond (inRange v0_1 (List.length v0_2)) (cond (inRange v0_1 (List.length v0_2)) (L0 v0_0 (IntKind.wrap .i64 (v0_1 + (1 : Int))) (List.set v0_2 (Int.toNat v0_1) (List.getD v0_0 (Int.toNat v0_1) ByteArray.empty))) none) none) none) (k v0_2))
def laws_toStringS {ρ : Type} (k : (List ByteArray) → Option ρ) (L0 : (List ByteArray) → Int → (List ByteArray) → Option ρ) (a0 : (List ByteArray)) : Option ρ := (cond (decide (0 ≤ (List.length a0 : Int)) && decide ((List.length a0 : Int) ≤ 549755813888)) (L0 a0 (0 : Int) (List.replicate (Int.toNat (List.length a0 : Int)) ByteArray.empty)) none)
theorem laws_toStringS_ok {ρ : Type} (k : (List ByteArray) → Option ρ) (a0 : (List ByteArray)) (l_a0 : lnL (fun _ => True) a0) (g : G.laws_toStringS a0 = true) : ∃ n0, ∀ n, n0 ≤ n → ∀ (L0 : Nat → (List ByteArray) → Int → (List ByteArray) → Option ρ) (h0 : ∀ ( m : Nat) (v0_0 : (List ByteArray)) (v0_1 : Int) (v0_2 : (List ByteArray)), L0 (m + 1) v0_0 v0_1 v0_2 = laws_toStringS_L0 k (L0 m) v0_0 v0_1 v0_2), laws_toStringS k (L0 n) a0 = k (N.laws_toStringS a0) := by
  unfold G.laws_toStringS at g
  refine ⟨a0.length + 1, fun n hn L0 h0 => ?_⟩
  have g' : a0.length ≤ 1048576 := by simpa using g
  have hg : (decide (0 ≤ (a0.length : Int)) && decide ((a0.length : Int) ≤ 549755813888)) = true := by simp; omega
  show cond _ _ none = _
  rw [hg]
  refine (raw_copy (a := a0) ByteArray.empty ByteArray.empty (fun x => x) (k := k) (L := fun m i out => L0 m a0 i out) (R := fun i out c => laws_toStringS_L0 k (fun _ i out => c i out) a0 i out) (fun m i s => h0 m a0 i s) (fun j out c hj hl => ?_) (fun s c => ?_) hn).trans (by simp)
  · simp [laws_toStringS_L0, lt_nat, inRange_nat, hj, hl, wrap_succ (j := j) (by unfold big; omega)]
  · simp [laws_toStringS_L0]
def O_laws_toStringS : Orac := nilO
theorem ok_laws_toStringS : OracOk Try.prog sigs O_laws_toStringS := nilO_ok
def A_laws_toStringS : Ann := fun b => cond (Nat.beq b 0) ⟨[(0, false), (3, true), (4, false)], []⟩ (⟨[], []⟩)
def S_laws_toStringS_0 (v0_0 : (List ByteArray)) (v0_1 : Int) (v0_2 : (List ByteArray)) : St := [(kT 0, some (.tv (.v (.slice 9 .str) v0_0 .no))), (kT 3, some (.tv (.v (.slice 9 .str) [] (.own 24)))), (kT 4, some (.tv (.v (.int .i64) v0_1 .no))), (kR 24, some (.row 9 .str v0_2))]
noncomputable def L_laws_toStringS_0 (n m : Nat) : St → Option Ret := loopOf tab sigs O_laws_toStringS A_laws_toStringS Try.f26 [((.slice 9 .str), (.own 0))] n (fun _ => 0) 0 m
theorem b_laws_toStringS_0 (n m : Nat) (v0_0 : (List ByteArray)) (v0_1 : Int) (v0_2 : (List ByteArray)) : L_laws_toStringS_0 n (m + 1) (S_laws_toStringS_0 v0_0 v0_1 v0_2) = laws_toStringS_L0 (fun r0 => some [⟨(.slice 9 .str), r0⟩]) (fun v0_0 v0_1 v0_2 => L_laws_toStringS_0 n m (S_laws_toStringS_0 v0_0 v0_1 v0_2)) v0_0 v0_1 v0_2 := by kernel_rfl
theorem a_laws_toStringS (n : Nat) (a0 : (List ByteArray)) : absF tab sigs O_laws_toStringS A_laws_toStringS Try.f26 [((.slice 9 .str), (.own 0))] n [.val (.slice 9 .str) a0] = laws_toStringS (fun r0 => some [⟨(.slice 9 .str), r0⟩]) (fun v0_0 v0_1 v0_2 => L_laws_toStringS_0 n n (S_laws_toStringS_0 v0_0 v0_1 v0_2)) a0 := by kernel_rfl
theorem said_laws_toStringS (a0 : (List ByteArray)) (g : G.laws_toStringS a0 = true) : Said Try.prog sigs_26 26 [.val (.slice 9 .str) a0] [⟨(.slice 9 .str), N.laws_toStringS a0⟩] := said_len (T := tab) (A := A_laws_toStringS) tabOk ok_laws_toStringS tabOk.follows Try.func26 (by kernel_rfl) (by kernel_rfl) (fun hl => let ⟨n, hn⟩ := laws_toStringS_ok (ρ := Ret) (fun r0 => some [⟨(.slice 9 .str), r0⟩]) a0 hl.1 g; ⟨n, (a_laws_toStringS n a0).trans (hn n (Nat.le_refl n) (fun  m v0_0 v0_1 v0_2 => L_laws_toStringS_0 n  m (S_laws_toStringS_0 v0_0 v0_1 v0_2)) (fun  m v0_0 v0_1 v0_2 => b_laws_toStringS_0 n  m v0_0 v0_1 v0_2))⟩)
abbrev G.laws_toEntry (a : TEntry) : Bool := decide (wE a ≤ 1048576)
abbrev N.laws_toEntry (a : TEntry) : TEntry := a
def laws_toEntry {ρ : Type} (k : TEntry → Option ρ) (a0 : TEntry) : Option ρ := (cond (G.laws_toStringS a0.2.2.2) (k (a0.1, (a0.2.1, (a0.2.2.1, (N.laws_toStringS a0.2.2.2))))) none)
theorem laws_toEntry_ok {ρ : Type} (k : TEntry → Option ρ) (a0 : TEntry) (l_a0 : (True ∧ (True ∧ (True ∧ lnL (fun _ => True) a0.2.2.2)))) (g : G.laws_toEntry a0 = true) : laws_toEntry k  a0 = k (N.laws_toEntry a0) := by
  unfold G.laws_toEntry at g
  have g' : wE a0 ≤ 1048576 := by simpa using g
  unfold wE wP at g'
  have g1 : decide (a0.2.2.2.length ≤ 1048576) = true := by simp; omega
  simp only [laws_toEntry, G.laws_toStringS, g1, cond_true]
def OP_laws_toEntry (f0 : (List ByteArray) → (List ByteArray)) (g0 : (List ByteArray) → Bool) : Orac := (orcX 26 [.val (.slice 9 .str)] (fun d => g0 d.1) (fun d => [⟨(.slice 9 .str), f0 d.1⟩]) nilO)
def O_laws_toEntry : Orac := OP_laws_toEntry N.laws_toStringS G.laws_toStringS
def laws_toEntry_P {ρ : Type} (f0 : (List ByteArray) → (List ByteArray)) (g0 : (List ByteArray) → Bool) (k : TEntry → Option ρ) (a0 : TEntry) : Option ρ := (cond (g0 a0.2.2.2) (k (a0.1, (a0.2.1, (a0.2.2.1, (f0 a0.2.2.2))))) none)
theorem ok_laws_toEntry : OracOk Try.prog sigs O_laws_toEntry := (orcX_ok rfl rfl (fun d g => said_laws_toStringS d.1 g) nilO_ok)
def A_laws_toEntry : Ann := fun b => ⟨[], []⟩
theorem aP_laws_toEntry (f0 : (List ByteArray) → (List ByteArray)) (g0 : (List ByteArray) → Bool) (n : Nat) (a0 : TEntry) : absF tab sigs (OP_laws_toEntry f0 g0) A_laws_toEntry Try.f9 [(TyEntry, (.pair .no (.pair .no (.pair .no (.own 0)))))] n [.val TyEntry a0] = laws_toEntry_P f0 g0 (fun r0 => some [⟨TyEntry, r0⟩])  a0 := by kernel_rfl
theorem said_laws_toEntry (a0 : TEntry) (g : G.laws_toEntry a0 = true) : Said Try.prog sigs_9 9 [.val TyEntry a0] [⟨TyEntry, N.laws_toEntry a0⟩] := said_len (T := tab) (A := A_laws_toEntry) tabOk ok_laws_toEntry tabOk.follows Try.func9 (by kernel_rfl) (by kernel_rfl) (fun hl => ⟨0, (aP_laws_toEntry N.laws_toStringS G.laws_toStringS 0 a0).trans (laws_toEntry_ok (ρ := Ret) (fun r0 => some [⟨TyEntry, r0⟩]) a0 hl.1 g)⟩)
abbrev G.laws_toEntryS (a : List TEntry) : Bool := decide (wEs a ≤ 1048576)
abbrev N.laws_toEntryS (a : List TEntry) : List TEntry := a
def laws_toEntryS_P_L0 {ρ : Type} (f0 : TEntry → TEntry) (g0 : TEntry → Bool) (k : (List TEntry) → Option ρ) (L0 : (List TEntry) → Int → (List TEntry) → Option ρ) (v0_0 : (List TEntry)) (v0_1 : Int) (v0_2 : (List TEntry)) : Option ρ := (cond (decide (v0_1 < (List.length v0_0 : Int))) (cond (inRange v0_1 (List.length v0_0)) (cond (g0 (List.getD v0_0 (Int.toNat v0_1) (ByteArray.empty, ((0 : Int), ((0 : Int), []))))) (cond (inRange v0_1 (List.length v0_2)) (cond (inRange v0_1 (List.length v0_2)) (L0 v0_0 (IntKind.wrap .i64 (v0_1 + (1 : Int))) (List.set v0_2 (Int.toNat v0_1) (f0 (List.getD v0_0 (Int.toNat v0_1) (ByteArray.empty, ((0 : Int), ((0 : Int), []))))))) none) none) none) none) (k v0_2))
def laws_toEntryS_P {ρ : Type} (f0 : TEntry → TEntry) (g0 : TEntry → Bool) (k : (List TEntry) → Option ρ) (L0 : (List TEntry) → Int → (List TEntry) → Option ρ) (a0 : (List TEntry)) : Option ρ := (cond (decide (0 ≤ (List.length a0 : Int)) && decide ((List.length a0 : Int) ≤ 549755813888)) (L0 a0 (0 : Int) (List.replicate (Int.toNat (List.length a0 : Int)) (ByteArray.empty, ((0 : Int), ((0 : Int), []))))) none)
def laws_toEntryS_L0 {ρ : Type} (k : (List TEntry) → Option ρ) (L0 : (List TEntry) → Int → (List TEntry) → Option ρ) (v0_0 : (List TEntry)) (v0_1 : Int) (v0_2 : (List TEntry)) : Option ρ := laws_toEntryS_P_L0 N.laws_toEntry G.laws_toEntry k L0 v0_0 v0_1 v0_2
def laws_toEntryS {ρ : Type} (k : (List TEntry) → Option ρ) (L0 : (List TEntry) → Int → (List TEntry) → Option ρ) (a0 : (List TEntry)) : Option ρ := laws_toEntryS_P N.laws_toEntry G.laws_toEntry k L0 a0
theorem laws_toEntryS_ok {ρ : Type} (k : (List TEntry) → Option ρ) (a0 : (List TEntry)) (l_a0 : lnL (fun y => (True ∧ (True ∧ (True ∧ lnL (fun _ => True) y.2.2.2)))) a0) (g : G.laws_toEntryS a0 = true) : ∃ n0, ∀ n, n0 ≤ n → ∀ (L0 : Nat → (List TEntry) → Int → (List TEntry) → Option ρ) (h0 : ∀ ( m : Nat) (v0_0 : (List TEntry)) (v0_1 : Int) (v0_2 : (List TEntry)), L0 (m + 1) v0_0 v0_1 v0_2 = laws_toEntryS_L0 k (L0 m) v0_0 v0_1 v0_2), laws_toEntryS k (L0 n) a0 = k (N.laws_toEntryS a0) := by
  unfold G.laws_toEntryS at g
  refine ⟨a0.length + 1, fun n hn L0 h0 => ?_⟩
  have g' : wEs a0 ≤ 1048576 := by simpa using g
  have hl : a0.length ≤ 1048576 := by unfold wEs at g'; omega
  have hg : (decide (0 ≤ (a0.length : Int)) && decide ((a0.length : Int) ≤ 549755813888)) = true := by simp; omega
  show cond _ _ none = _
  rw [hg]
  refine (raw_copy (a := a0) (ByteArray.empty, (0, (0, []))) (ByteArray.empty, (0, (0, []))) (fun x => x) (k := k) (L := fun m i out => L0 m a0 i out) (R := fun i out c => laws_toEntryS_L0 k (fun _ i out => c i out) a0 i out) (fun m i s => h0 m a0 i s) (fun j out c hj hl => ?_) (fun s c => ?_) hn).trans (by simp)
  · have hw := wEs_mem (getD_mem (d := (ByteArray.empty, (0, (0, [])))) hj)
    have hw' : decide (wE (a0.getD j (ByteArray.empty, (0, (0, [])))) ≤ 1048576) = true := by simp only [decide_eq_true_eq]; omega
    simp only [laws_toEntryS_L0, laws_toEntryS_P_L0, G.laws_toEntry, lt_nat, inRange_nat, hj, hl, decide_true, cond_true, Int.toNat_natCast, hw', wrap_succ (j := j) (by unfold big; omega)]
  · simp [laws_toEntryS_L0, laws_toEntryS_P_L0]
def OP_laws_toEntryS (f0 : TEntry → TEntry) (g0 : TEntry → Bool) : Orac := (orcX 9 [.val TyEntry] (fun d => g0 d.1) (fun d => [⟨TyEntry, f0 d.1⟩]) nilO)
def O_laws_toEntryS : Orac := OP_laws_toEntryS N.laws_toEntry G.laws_toEntry
theorem ok_laws_toEntryS : OracOk Try.prog sigs O_laws_toEntryS := (orcX_ok rfl rfl (fun d g => said_laws_toEntry d.1 g) nilO_ok)
def A_laws_toEntryS : Ann := fun b => cond (Nat.beq b 0) ⟨[(0, false), (3, true), (4, false)], []⟩ (⟨[], []⟩)
def S_laws_toEntryS_0 (v0_0 : (List TEntry)) (v0_1 : Int) (v0_2 : (List TEntry)) : St := [(kT 0, some (.tv (.v (.slice 25 TyEntry) v0_0 .no))), (kT 3, some (.tv (.v (.slice 32 TyEntry) [] (.own 24)))), (kT 4, some (.tv (.v (.int .i64) v0_1 .no))), (kR 24, some (.row 32 TyEntry v0_2))]
noncomputable def L_P_laws_toEntryS_0 (f0 : TEntry → TEntry) (g0 : TEntry → Bool) (n m : Nat) : St → Option Ret := loopOf tab sigs (OP_laws_toEntryS f0 g0) A_laws_toEntryS Try.f8 [((.slice 32 TyEntry), (.own 0))] n (fun _ => 0) 0 m
theorem bP_laws_toEntryS_0 (f0 : TEntry → TEntry) (g0 : TEntry → Bool) (n m : Nat) (v0_0 : (List TEntry)) (v0_1 : Int) (v0_2 : (List TEntry)) : L_P_laws_toEntryS_0 f0 g0 n (m + 1) (S_laws_toEntryS_0 v0_0 v0_1 v0_2) = laws_toEntryS_P_L0 f0 g0 (fun r0 => some [⟨(.slice 32 TyEntry), r0⟩]) (fun v0_0 v0_1 v0_2 => L_P_laws_toEntryS_0 f0 g0 n m (S_laws_toEntryS_0 v0_0 v0_1 v0_2)) v0_0 v0_1 v0_2 := by kernel_rfl
theorem aP_laws_toEntryS (f0 : TEntry → TEntry) (g0 : TEntry → Bool) (n : Nat) (a0 : (List TEntry)) : absF tab sigs (OP_laws_toEntryS f0 g0) A_laws_toEntryS Try.f8 [((.slice 32 TyEntry), (.own 0))] n [.val (.slice 25 TyEntry) a0] = laws_toEntryS_P f0 g0 (fun r0 => some [⟨(.slice 32 TyEntry), r0⟩]) (fun v0_0 v0_1 v0_2 => L_P_laws_toEntryS_0 f0 g0 n n (S_laws_toEntryS_0 v0_0 v0_1 v0_2)) a0 := by kernel_rfl
theorem said_laws_toEntryS (a0 : (List TEntry)) (g : G.laws_toEntryS a0 = true) : Said Try.prog sigs_8 8 [.val (.slice 25 TyEntry) a0] [⟨(.slice 32 TyEntry), N.laws_toEntryS a0⟩] := said_len (T := tab) (A := A_laws_toEntryS) tabOk ok_laws_toEntryS tabOk.follows Try.func8 (by kernel_rfl) (by kernel_rfl) (fun hl => let ⟨n, hn⟩ := laws_toEntryS_ok (ρ := Ret) (fun r0 => some [⟨(.slice 32 TyEntry), r0⟩]) a0 hl.1 g; ⟨n, (aP_laws_toEntryS N.laws_toEntry G.laws_toEntry n a0).trans (hn n (Nat.le_refl n) (fun  m v0_0 v0_1 v0_2 => L_P_laws_toEntryS_0 N.laws_toEntry G.laws_toEntry n  m (S_laws_toEntryS_0 v0_0 v0_1 v0_2)) (fun  m v0_0 v0_1 v0_2 => bP_laws_toEntryS_0 N.laws_toEntry G.laws_toEntry n  m v0_0 v0_1 v0_2))⟩)
abbrev N.spec_l1In (n lo hi : Int) : Bool := inR n lo hi
def spec_l1In {ρ : Type} (k : Bool → Option ρ) (a0 : Int) (a1 : Int) (a2 : Int) : Option ρ := (cond (decide (a0 ≥ a1)) (k (decide (a0 ≤ a2))) (k false))
theorem spec_l1In_ok {ρ : Type} (k : Bool → Option ρ) (a0 : Int) (a1 : Int) (a2 : Int) : spec_l1In k  a0 a1 a2 = k (N.spec_l1In a0 a1 a2) := by
  simp only [spec_l1In, inR, ge_iff_le]
  cases decide (a1 ≤ a0) <;> rfl
def O_spec_l1In : Orac := nilO
theorem ok_spec_l1In : OracOk Try.prog sigs O_spec_l1In := nilO_ok
def A_spec_l1In : Ann := fun b => ⟨[], []⟩
theorem a_spec_l1In (n : Nat) (a0 : Int) (a1 : Int) (a2 : Int) : absF tab sigs O_spec_l1In A_spec_l1In Try.f50 [(.bool, .no)] n [.val (.int .i64) a0, .val (.int .i64) a1, .val (.int .i64) a2] = spec_l1In (fun r0 => some [⟨.bool, r0⟩])  a0 a1 a2 := by kernel_rfl
theorem said_spec_l1In (a0 : Int) (a1 : Int) (a2 : Int) : Said Try.prog sigs_50 50 [.val (.int .i64) a0, .val (.int .i64) a1, .val (.int .i64) a2] [⟨.bool, N.spec_l1In a0 a1 a2⟩] := said_len (T := tab) (A := A_spec_l1In) tabOk ok_spec_l1In tabOk.follows Try.func50 (by kernel_rfl) (by kernel_rfl) (fun hl => ⟨0, (a_spec_l1In 0 a0 a1 a2).trans (spec_l1In_ok (ρ := Ret) (fun r0 => some [⟨.bool, r0⟩]) a0 a1 a2)⟩)
abbrev G.spec_IsLabel (s : ByteArray) : Bool := decide (s.size ≤ 1048576)
abbrev N.spec_IsLabel (s : ByteArray) : Bool := isLabel s
def spec_IsLabel_P_L0 {ρ : Type} (f0 : Int → Int → Int → Bool) (k : Bool → Option ρ) (L0 : ByteArray → Int → Option ρ) (v0_0 : ByteArray) (v0_1 : Int) : Option ρ := (cond (decide (v0_1 < (ByteArray.size v0_0 : Int))) (cond (inRange v0_1 (ByteArray.size v0_0)) (cond (decide ((bt v0_0 v0_1) < (97 : Int))) (cond (inRange v0_1 (ByteArray.size v0_0)) (cond (decide ((bt v0_0 v0_1) < (48 : Int))) (cond (inRange v0_1 (ByteArray.size v0_0)) (cond ((bt v0_0 v0_1) != (45 : Int)) (k false) (L0 v0_0 (IntKind.wrap .i64 (v0_1 + (1 : Int))))) none) (cond (inRange v0_1 (ByteArray.size v0_0)) (cond (decide ((bt v0_0 v0_1) > (57 : Int))) (cond (inRange v0_1 (ByteArray.size v0_0)) (cond ((bt v0_0 v0_1) != (45 : Int)) (k false) (L0 v0_0 (IntKind.wrap .i64 (v0_1 + (1 : Int))))) none) (L0 v0_0 (IntKind.wrap .i64 (v0_1 + (1 : Int))))) none)) none) (cond (inRange v0_1 (ByteArray.size v0_0)) (cond (decide ((bt v0_0 v0_1) > (122 : Int))) (cond (inRange v0_1 (ByteArray.size v0_0)) (cond (decide ((bt v0_0 v0_1) < (48 : Int))) (cond (inRange v0_1 (ByteArray.size v0_0)) (cond ((bt v0_0 v0_1) != (45 : Int)) (k false) (L0 v0_0 (IntKind.wrap .i64 (v0_1 + (1 : Int))))) none) (cond (inRange v0_1 (ByteArray.size v0_0)) (cond (decide ((bt v0_0 v0_1) > (57 : Int))) (cond (inRange v0_1 (ByteArray.size v0_0)) (cond ((bt v0_0 v0_1) != (45 : Int)) (k false) (L0 v0_0 (IntKind.wrap .i64 (v0_1 + (1 : Int))))) none) (L0 v0_0 (IntKind.wrap .i64 (v0_1 + (1 : Int))))) none)) none) (L0 v0_0 (IntKind.wrap .i64 (v0_1 + (1 : Int))))) none)) none) (k true))
def spec_IsLabel_P {ρ : Type} (f0 : Int → Int → Int → Bool) (k : Bool → Option ρ) (L0 : ByteArray → Int → Option ρ) (a0 : ByteArray) : Option ρ := (cond (!(f0 (ByteArray.size a0 : Int) (1 : Int) (8 : Int))) (k false) (cond (inRange (0 : Int) (ByteArray.size a0)) (cond ((bt a0 (0 : Int)) == (45 : Int)) (k false) (cond (inRange (IntKind.wrap .i64 ((ByteArray.size a0 : Int) - (1 : Int))) (ByteArray.size a0)) (cond ((bt a0 (IntKind.wrap .i64 ((ByteArray.size a0 : Int) - (1 : Int)))) == (45 : Int)) (k false) (L0 a0 (0 : Int))) none)) none))
def spec_IsLabel_L0 {ρ : Type} (k : Bool → Option ρ) (L0 : ByteArray → Int → Option ρ) (v0_0 : ByteArray) (v0_1 : Int) : Option ρ := spec_IsLabel_P_L0 N.spec_l1In k L0 v0_0 v0_1
def spec_IsLabel {ρ : Type} (k : Bool → Option ρ) (L0 : ByteArray → Int → Option ρ) (a0 : ByteArray) : Option ρ := spec_IsLabel_P N.spec_l1In k L0 a0
theorem spec_IsLabel_ok {ρ : Type} (k : Bool → Option ρ) (a0 : ByteArray) (g : G.spec_IsLabel a0 = true) : ∃ n0, ∀ n, n0 ≤ n → ∀ (L0 : Nat → ByteArray → Int → Option ρ) (h0 : ∀ ( m : Nat) (v0_0 : ByteArray) (v0_1 : Int), L0 (m + 1) v0_0 v0_1 = spec_IsLabel_L0 k (L0 m) v0_0 v0_1), spec_IsLabel k (L0 n) a0 = k (N.spec_IsLabel a0) := by
  unfold G.spec_IsLabel at g
  have hlen : a0.size ≤ 1048576 := of_decide_eq_true g
  refine ⟨a0.size + 1, fun n hn L0 h0 => ?_⟩
  show spec_IsLabel k (L0 n) a0 = k (isLabel a0)
  unfold spec_IsLabel spec_IsLabel_P isLabel
  dsimp only [N.spec_l1In]
  cases hr : inR (a0.size : Int) 1 8 with
  | false => rfl
  | true =>
    have hr2 : 1 ≤ (a0.size : Int) ∧ (a0.size : Int) ≤ 8 := by simpa [inR] using hr
    have e0 : inRange 0 a0.size = true := by unfold inRange; simp; omega
    have e1 : IntKind.wrap .i64 ((a0.size : Int) - 1) = ((a0.size - 1 : Nat) : Int) := by rw [wrap_id (by omega) (by omega)]; omega
    have e2 : inRange ((a0.size - 1 : Nat) : Int) a0.size = true := by rw [inRange_nat]; simp; omega
    have hrun := raw_run0 (σ := Unit) (s := ()) (L := fun m i _ => L0 m a0 i) (R := fun i _ c => spec_IsLabel_L0 k (fun _ i => c i ()) a0 i) (fun m i s => h0 m a0 i) a0.size (fun _ _ => True) (fun j _ => k (charsFrom a0 (a0.size - j) j)) (fun j s c hj _ hc => ?_) (fun s c _ => ?_) hn trivial
    · rw [e1]
      simp only [e0, e2, cond_true, Bool.not_true, cond_false]
      rw [hrun, Nat.sub_zero, label_edges a0 (by omega)]
      cases bt a0 0 == 45 <;> cases bt a0 ((a0.size - 1 : Nat) : Int) == 45 <;> simp
    · obtain ⟨m, hm⟩ : ∃ m, a0.size - j = m + 1 := ⟨a0.size - j - 1, by omega⟩
      have hm2 : a0.size - (j + 1) = m := by omega
      have hc' := hc () trivial
      rw [hm2] at hc'
      rw [hm]
      unfold charsFrom
      simp only [spec_IsLabel_L0, spec_IsLabel_P_L0, lt_nat, inRange_nat, decide_eq_true hj, cond_true, wrap_succ (j := j) (by unfold big; omega), hc']
      generalize bt a0 (j : Int) = b
      exact char_spec k b _
    · rw [Nat.sub_self]
      simp [spec_IsLabel_L0, spec_IsLabel_P_L0, charsFrom]
def OP_spec_IsLabel (f0 : Int → Int → Int → Bool) : Orac := (orcX 50 [.val (.int .i64), .val (.int .i64), .val (.int .i64)] (fun d => true) (fun d => [⟨.bool, f0 d.1 d.2.1 d.2.2.1⟩]) nilO)
def O_spec_IsLabel : Orac := OP_spec_IsLabel N.spec_l1In
theorem ok_spec_IsLabel : OracOk Try.prog sigs O_spec_IsLabel := (orcX_ok rfl rfl (fun d g => said_spec_l1In d.1 d.2.1 d.2.2.1) nilO_ok)
def A_spec_IsLabel : Ann := fun b => cond (Nat.beq b 0) ⟨[(0, false), (3, false)], []⟩ (⟨[], []⟩)
def S_spec_IsLabel_0 (v0_0 : ByteArray) (v0_1 : Int) : St := [(kT 0, some (.tv (.v .str v0_0 .no))), (kT 3, some (.tv (.v (.int .i64) v0_1 .no)))]
noncomputable def L_P_spec_IsLabel_0 (f0 : Int → Int → Int → Bool) (n m : Nat) : St → Option Ret := loopOf tab sigs (OP_spec_IsLabel f0) A_spec_IsLabel Try.f46 [(.bool, .no)] n (fun _ => 0) 0 m
theorem bP_spec_IsLabel_0 (f0 : Int → Int → Int → Bool) (n m : Nat) (v0_0 : ByteArray) (v0_1 : Int) : L_P_spec_IsLabel_0 f0 n (m + 1) (S_spec_IsLabel_0 v0_0 v0_1) = spec_IsLabel_P_L0 f0 (fun r0 => some [⟨.bool, r0⟩]) (fun v0_0 v0_1 => L_P_spec_IsLabel_0 f0 n m (S_spec_IsLabel_0 v0_0 v0_1)) v0_0 v0_1 := by kernel_rfl
theorem aP_spec_IsLabel (f0 : Int → Int → Int → Bool) (n : Nat) (a0 : ByteArray) : absF tab sigs (OP_spec_IsLabel f0) A_spec_IsLabel Try.f46 [(.bool, .no)] n [.val .str a0] = spec_IsLabel_P f0 (fun r0 => some [⟨.bool, r0⟩]) (fun v0_0 v0_1 => L_P_spec_IsLabel_0 f0 n n (S_spec_IsLabel_0 v0_0 v0_1)) a0 := by kernel_rfl
theorem said_spec_IsLabel (a0 : ByteArray) (g : G.spec_IsLabel a0 = true) : Said Try.prog sigs_46 46 [.val .str a0] [⟨.bool, N.spec_IsLabel a0⟩] := said_len (T := tab) (A := A_spec_IsLabel) tabOk ok_spec_IsLabel tabOk.follows Try.func46 (by kernel_rfl) (by kernel_rfl) (fun hl => let ⟨n, hn⟩ := spec_IsLabel_ok (ρ := Ret) (fun r0 => some [⟨.bool, r0⟩]) a0 g; ⟨n, (aP_spec_IsLabel N.spec_l1In n a0).trans (hn n (Nat.le_refl n) (fun  m v0_0 v0_1 => L_P_spec_IsLabel_0 N.spec_l1In n  m (S_spec_IsLabel_0 v0_0 v0_1)) (fun  m v0_0 v0_1 => bP_spec_IsLabel_0 N.spec_l1In n  m v0_0 v0_1))⟩)
abbrev G.spec_PlainOf (s : ByteArray) : Bool := decide (s.size ≤ 1048576)
abbrev N.spec_PlainOf (s : ByteArray) : ByteArray := plainOf s
def spec_PlainOf_L0 {ρ : Type} (k : ByteArray → Option ρ) (L0 : ByteArray → Int → (List Int) → Option ρ) (v0_0 : ByteArray) (v0_1 : Int) (v0_2 : (List Int)) : Option ρ := (cond (decide (v0_1 < (ByteArray.size v0_0 : Int))) (cond (inRange v0_1 (ByteArray.size v0_0)) (cond ((bt v0_0 v0_1) == (48 : Int)) (cond (fit (List.length v0_2) (List.length [(111 : Int)])) (L0 v0_0 (IntKind.wrap .i64 (v0_1 + (1 : Int))) (List.append v0_2 [(111 : Int)])) none) (cond ((bt v0_0 v0_1) == (49 : Int)) (cond (fit (List.length v0_2) (List.length [(108 : Int)])) (L0 v0_0 (IntKind.wrap .i64 (v0_1 + (1 : Int))) (List.append v0_2 [(108 : Int)])) none) (cond ((bt v0_0 v0_1) == (53 : Int)) (cond (fit (List.length v0_2) (List.length [(115 : Int)])) (L0 v0_0 (IntKind.wrap .i64 (v0_1 + (1 : Int))) (List.append v0_2 [(115 : Int)])) none) (cond ((bt v0_0 v0_1) == (45 : Int)) (L0 v0_0 (IntKind.wrap .i64 (v0_1 + (1 : Int))) v0_2) (cond (inRange v0_1 (ByteArray.size v0_0)) (cond (fit (List.length v0_2) (List.length [(bt v0_0 v0_1)])) (L0 v0_0 (IntKind.wrap .i64 (v0_1 + (1 : Int))) (List.append v0_2 [(bt v0_0 v0_1)])) none) none))))) none) (k (strOfNums v0_2)))
def spec_PlainOf {ρ : Type} (k : ByteArray → Option ρ) (L0 : ByteArray → Int → (List Int) → Option ρ) (a0 : ByteArray) : Option ρ := (L0 a0 (0 : Int) ([] : (List Int)))
theorem spec_PlainOf_ok {ρ : Type} (k : ByteArray → Option ρ) (a0 : ByteArray) (g : G.spec_PlainOf a0 = true) : ∃ n0, ∀ n, n0 ≤ n → ∀ (L0 : Nat → ByteArray → Int → (List Int) → Option ρ) (h0 : ∀ ( m : Nat) (v0_0 : ByteArray) (v0_1 : Int) (v0_2 : (List Int)), L0 (m + 1) v0_0 v0_1 v0_2 = spec_PlainOf_L0 k (L0 m) v0_0 v0_1 v0_2), spec_PlainOf k (L0 n) a0 = k (N.spec_PlainOf a0) := by
  unfold G.spec_PlainOf at g
  have hl : a0.size ≤ 1048576 := of_decide_eq_true g
  have hb := bytesOf_length a0
  refine ⟨a0.size + 1, fun n hn L0 h0 => ?_⟩
  refine raw_filter (a := bytesOf a0) 0 plainB 1048576 (k := fun o => k (strOfNums o)) (L := fun m i o => L0 m a0 i o) (R := fun i o c => spec_PlainOf_L0 k (fun _ i o => c i o) a0 i o) (fun m i s => h0 m a0 i s) (fun j o c hj ho => ?_) (fun o c => ?_) (by omega) (by omega)
  · have hj2 : j < a0.size := by omega
    have h1 : j < big := by unfold big; omega
    have hf : ∀ x : Int, fit (List.length o) (List.length [x]) = true := fun x => fit_of (by simp; omega)
    have e1 : (bytesOf a0).getD j 0 = bt a0 (j : Int) := bytes_at a0 j
    have e2 : inRange (j : Int) (ByteArray.size a0) = true := by rw [inRange_nat]; exact decide_eq_true hj2
    have e3 : decide ((j : Int) < (ByteArray.size a0 : Int)) = true := decide_eq_true (by omega)
    simp only [spec_PlainOf_L0, e2, e3, cond_true, hf, wrap_succ h1, e1, plainB]
    cases (bt a0 (j : Int) == 48) <;> cases (bt a0 (j : Int) == 49) <;> cases (bt a0 (j : Int) == 53) <;> cases (bt a0 (j : Int) == 45) <;> rfl
  · have e3 : decide (((bytesOf a0).length : Int) < (ByteArray.size a0 : Int)) = false := decide_eq_false (by omega)
    simp only [spec_PlainOf_L0, e3, cond_false]
def O_spec_PlainOf : Orac := nilO
theorem ok_spec_PlainOf : OracOk Try.prog sigs O_spec_PlainOf := nilO_ok
def A_spec_PlainOf : Ann := fun b => cond (Nat.beq b 0) ⟨[(0, false), (3, true), (4, false)], []⟩ (⟨[], []⟩)
def S_spec_PlainOf_0 (v0_0 : ByteArray) (v0_1 : Int) (v0_2 : (List Int)) : St := [(kT 0, some (.tv (.v .str v0_0 .no))), (kT 3, some (.tv (.v (.slice 5 (.int .u8)) [] (.own 24)))), (kT 4, some (.tv (.v (.int .i64) v0_1 .no))), (kR 24, some (.row 5 (.int .u8) v0_2))]
noncomputable def L_spec_PlainOf_0 (n m : Nat) : St → Option Ret := loopOf tab sigs O_spec_PlainOf A_spec_PlainOf Try.f47 [(.str, .no)] n (fun _ => 0) 0 m
theorem b_spec_PlainOf_0 (n m : Nat) (v0_0 : ByteArray) (v0_1 : Int) (v0_2 : (List Int)) : L_spec_PlainOf_0 n (m + 1) (S_spec_PlainOf_0 v0_0 v0_1 v0_2) = spec_PlainOf_L0 (fun r0 => some [⟨.str, r0⟩]) (fun v0_0 v0_1 v0_2 => L_spec_PlainOf_0 n m (S_spec_PlainOf_0 v0_0 v0_1 v0_2)) v0_0 v0_1 v0_2 := by kernel_rfl
theorem a_spec_PlainOf (n : Nat) (a0 : ByteArray) : absF tab sigs O_spec_PlainOf A_spec_PlainOf Try.f47 [(.str, .no)] n [.val .str a0] = spec_PlainOf (fun r0 => some [⟨.str, r0⟩]) (fun v0_0 v0_1 v0_2 => L_spec_PlainOf_0 n n (S_spec_PlainOf_0 v0_0 v0_1 v0_2)) a0 := by kernel_rfl
theorem said_spec_PlainOf (a0 : ByteArray) (g : G.spec_PlainOf a0 = true) : Said Try.prog sigs_47 47 [.val .str a0] [⟨.str, N.spec_PlainOf a0⟩] := said_len (T := tab) (A := A_spec_PlainOf) tabOk ok_spec_PlainOf tabOk.follows Try.func47 (by kernel_rfl) (by kernel_rfl) (fun hl => let ⟨n, hn⟩ := spec_PlainOf_ok (ρ := Ret) (fun r0 => some [⟨.str, r0⟩]) a0 g; ⟨n, (a_spec_PlainOf n a0).trans (hn n (Nat.le_refl n) (fun  m v0_0 v0_1 v0_2 => L_spec_PlainOf_0 n  m (S_spec_PlainOf_0 v0_0 v0_1 v0_2)) (fun  m v0_0 v0_1 v0_2 => b_spec_PlainOf_0 n  m v0_0 v0_1 v0_2))⟩)
abbrev G.spec_LooksLike (a b : ByteArray) : Bool := decide (a.size ≤ 1048576) && decide (b.size ≤ 1048576)
abbrev N.spec_LooksLike (a b : ByteArray) : Bool := looksLike a b
def spec_LooksLike_P {ρ : Type} (f0 : ByteArray → Bool) (g0 : ByteArray → Bool) (f1 : ByteArray → ByteArray) (g1 : ByteArray → Bool) (k : Bool → Option ρ) (a0 : ByteArray) (a1 : ByteArray) : Option ρ := (cond (g0 a0) (cond (f0 a0) (cond (g0 a1) (cond (f0 a1) (cond (g1 a0) (cond (g1 a1) (k ((ByteArray.toList (f1 a0)) == (ByteArray.toList (f1 a1)))) none) none) (k false)) none) (k false)) none)
def spec_LooksLike {ρ : Type} (k : Bool → Option ρ) (a0 : ByteArray) (a1 : ByteArray) : Option ρ := spec_LooksLike_P N.spec_IsLabel G.spec_IsLabel N.spec_PlainOf G.spec_PlainOf k a0 a1
theorem spec_LooksLike_ok {ρ : Type} (k : Bool → Option ρ) (a0 : ByteArray) (a1 : ByteArray) (g : G.spec_LooksLike a0 a1 = true) : spec_LooksLike k  a0 a1 = k (N.spec_LooksLike a0 a1) := by
  unfold G.spec_LooksLike at g
  obtain ⟨g1, g2⟩ := (Bool.and_eq_true _ _).mp g
  simp only [spec_LooksLike, spec_LooksLike_P, G.spec_IsLabel, N.spec_IsLabel, G.spec_PlainOf, N.spec_PlainOf, g1, g2, cond_true]
  unfold N.spec_LooksLike looksLike
  cases isLabel a0 <;> cases isLabel a1 <;> rfl
def OP_spec_LooksLike (f0 : ByteArray → Bool) (g0 : ByteArray → Bool) (f1 : ByteArray → ByteArray) (g1 : ByteArray → Bool) : Orac := (orcX 47 [.val .str] (fun d => g1 d.1) (fun d => [⟨.str, f1 d.1⟩]) (orcX 46 [.val .str] (fun d => g0 d.1) (fun d => [⟨.bool, f0 d.1⟩]) nilO))
def O_spec_LooksLike : Orac := OP_spec_LooksLike N.spec_IsLabel G.spec_IsLabel N.spec_PlainOf G.spec_PlainOf
theorem ok_spec_LooksLike : OracOk Try.prog sigs O_spec_LooksLike := (orcX_ok rfl rfl (fun d g => said_spec_PlainOf d.1 g) (orcX_ok rfl rfl (fun d g => said_spec_IsLabel d.1 g) nilO_ok))
def A_spec_LooksLike : Ann := fun b => ⟨[], []⟩
theorem aP_spec_LooksLike (f0 : ByteArray → Bool) (g0 : ByteArray → Bool) (f1 : ByteArray → ByteArray) (g1 : ByteArray → Bool) (n : Nat) (a0 : ByteArray) (a1 : ByteArray) : absF tab sigs (OP_spec_LooksLike f0 g0 f1 g1) A_spec_LooksLike Try.f35 [(.bool, .no)] n [.val .str a0, .val .str a1] = spec_LooksLike_P f0 g0 f1 g1 (fun r0 => some [⟨.bool, r0⟩])  a0 a1 := by kernel_rfl
theorem said_spec_LooksLike (a0 : ByteArray) (a1 : ByteArray) (g : G.spec_LooksLike a0 a1 = true) : Said Try.prog sigs_35 35 [.val .str a0, .val .str a1] [⟨.bool, N.spec_LooksLike a0 a1⟩] := said_len (T := tab) (A := A_spec_LooksLike) tabOk ok_spec_LooksLike tabOk.follows Try.func35 (by kernel_rfl) (by kernel_rfl) (fun hl => ⟨0, (aP_spec_LooksLike N.spec_IsLabel G.spec_IsLabel N.spec_PlainOf G.spec_PlainOf 0 a0 a1).trans (spec_LooksLike_ok (ρ := Ret) (fun r0 => some [⟨.bool, r0⟩]) a0 a1 g)⟩)
abbrev G.spec_AlikeIn (l : List TEntry) (s : ByteArray) : Bool := decide (wEs l ≤ 1048576) && decide (s.size ≤ 1048576)
abbrev N.spec_AlikeIn (l : List TEntry) (s : ByteArray) : List ByteArray := alikeIn l s
def spec_AlikeIn_P_L0 {ρ : Type} (f0 : ByteArray → ByteArray → Bool) (g0 : ByteArray → ByteArray → Bool) (k : (List ByteArray) → Option ρ) (L0 : (List TEntry) → ByteArray → Int → (List ByteArray) → Option ρ) (v0_0 : (List TEntry)) (v0_1 : ByteArray) (v0_2 : Int) (v0_3 : (List ByteArray)) : Option ρ := (cond (decide (v0_2 < (List.length v0_0 : Int))) (cond (inRange v0_2 (List.length v0_0)) (cond (!((ByteArray.toList (List.getD v0_0 (Int.toNat v0_2) (ByteArray.empty, ((0 : Int), ((0 : Int), [])))).1) == (ByteArray.toList v0_1))) (cond (inRange v0_2 (List.length v0_0)) (cond (g0 (List.getD v0_0 (Int.toNat v0_2) (ByteArray.empty, ((0 : Int), ((0 : Int), [])))).1 v0_1) (cond (f0 (List.getD v0_0 (Int.toNat v0_2) (ByteArray.empty, ((0 : Int), ((0 : Int), [])))).1 v0_1) (cond (inRange v0_2 (List.length v0_0)) (cond (fit (List.length v0_3) (List.length [(List.getD v0_0 (Int.toNat v0_2) (ByteArray.empty, ((0 : Int), ((0 : Int), [])))).1])) (L0 v0_0 v0_1 (IntKind.wrap .i64 (v0_2 + (1 : Int))) (List.append v0_3 [(List.getD v0_0 (Int.toNat v0_2) (ByteArray.empty, ((0 : Int), ((0 : Int), [])))).1])) none) none) (L0 v0_0 v0_1 (IntKind.wrap .i64 (v0_2 + (1 : Int))) v0_3)) none) none) (L0 v0_0 v0_1 (IntKind.wrap .i64 (v0_2 + (1 : Int))) v0_3)) none) (k v0_3))
def spec_AlikeIn_P {ρ : Type} (f0 : ByteArray → ByteArray → Bool) (g0 : ByteArray → ByteArray → Bool) (k : (List ByteArray) → Option ρ) (L0 : (List TEntry) → ByteArray → Int → (List ByteArray) → Option ρ) (a0 : (List TEntry)) (a1 : ByteArray) : Option ρ := (L0 a0 a1 (0 : Int) ([] : (List ByteArray)))
def spec_AlikeIn_L0 {ρ : Type} (k : (List ByteArray) → Option ρ) (L0 : (List TEntry) → ByteArray → Int → (List ByteArray) → Option ρ) (v0_0 : (List TEntry)) (v0_1 : ByteArray) (v0_2 : Int) (v0_3 : (List ByteArray)) : Option ρ := spec_AlikeIn_P_L0 N.spec_LooksLike G.spec_LooksLike k L0 v0_0 v0_1 v0_2 v0_3
def spec_AlikeIn {ρ : Type} (k : (List ByteArray) → Option ρ) (L0 : (List TEntry) → ByteArray → Int → (List ByteArray) → Option ρ) (a0 : (List TEntry)) (a1 : ByteArray) : Option ρ := spec_AlikeIn_P N.spec_LooksLike G.spec_LooksLike k L0 a0 a1
theorem spec_AlikeIn_ok {ρ : Type} (k : (List ByteArray) → Option ρ) (a0 : (List TEntry)) (a1 : ByteArray) (l_a0 : lnL (fun y => (True ∧ (True ∧ (True ∧ lnL (fun _ => True) y.2.2.2)))) a0) (g : G.spec_AlikeIn a0 a1 = true) : ∃ n0, ∀ n, n0 ≤ n → ∀ (L0 : Nat → (List TEntry) → ByteArray → Int → (List ByteArray) → Option ρ) (h0 : ∀ ( m : Nat) (v0_0 : (List TEntry)) (v0_1 : ByteArray) (v0_2 : Int) (v0_3 : (List ByteArray)), L0 (m + 1) v0_0 v0_1 v0_2 v0_3 = spec_AlikeIn_L0 k (L0 m) v0_0 v0_1 v0_2 v0_3), spec_AlikeIn k (L0 n) a0 a1 = k (N.spec_AlikeIn a0 a1) := by
  unfold G.spec_AlikeIn at g
  obtain ⟨g1, g2⟩ := (Bool.and_eq_true _ _).mp g
  have hw : wEs a0 ≤ 1048576 := of_decide_eq_true g1
  have hl := wEs_ge a0
  refine ⟨a0.length + 1, fun n hn L0 h0 => ?_⟩
  refine raw_filter (a := a0) (ByteArray.empty, (0, (0, []))) (alikeOf a1) 1048576 (k := k) (L := fun m i o => L0 m a0 a1 i o) (R := fun i o c => spec_AlikeIn_L0 k (fun _ _ i o => c i o) a0 a1 i o) (fun m i s => h0 m a0 a1 i s) (fun j o c hj ho => ?_) (fun o c => ?_) (by omega) hn
  · have h1 : j < big := by unfold big; omega
    have hm := wEs_mem (getD_mem (d := (ByteArray.empty, (0, (0, [])))) hj)
    have g3 : decide ((a0.getD j (ByteArray.empty, (0, (0, [])))).1.size ≤ 1048576) = true := decide_eq_true (by have := wE_lab (a0.getD j (ByteArray.empty, (0, (0, [])))); omega)
    have hf : ∀ x : ByteArray, fit (List.length o) (List.length [x]) = true := fun x => fit_of (by simp; omega)
    simp only [spec_AlikeIn_L0, spec_AlikeIn_P_L0, lt_nat, inRange_nat, decide_eq_true hj, cond_true, Int.toNat_natCast, G.spec_LooksLike, N.spec_LooksLike, g2, g3, Bool.and_self, hf, wrap_succ h1, alikeOf, eqStr]
    cases (ByteArray.toList (a0.getD j (ByteArray.empty, (0, (0, [])))).1 == ByteArray.toList a1) <;> cases looksLike (a0.getD j (ByteArray.empty, (0, (0, [])))).1 a1 <;> rfl
  · simp [spec_AlikeIn_L0, spec_AlikeIn_P_L0]
def OP_spec_AlikeIn (f0 : ByteArray → ByteArray → Bool) (g0 : ByteArray → ByteArray → Bool) : Orac := (orcX 35 [.val .str, .val .str] (fun d => g0 d.1 d.2.1) (fun d => [⟨.bool, f0 d.1 d.2.1⟩]) nilO)
def O_spec_AlikeIn : Orac := OP_spec_AlikeIn N.spec_LooksLike G.spec_LooksLike
theorem ok_spec_AlikeIn : OracOk Try.prog sigs O_spec_AlikeIn := (orcX_ok rfl rfl (fun d g => said_spec_LooksLike d.1 d.2.1 g) nilO_ok)
def A_spec_AlikeIn : Ann := fun b => cond (Nat.beq b 0) ⟨[(0, false), (1, false), (5, true), (6, false)], []⟩ (⟨[], []⟩)
def S_spec_AlikeIn_0 (v0_0 : (List TEntry)) (v0_1 : ByteArray) (v0_2 : Int) (v0_3 : (List ByteArray)) : St := [(kT 0, some (.tv (.v (.slice 32 TyEntry) v0_0 .no))), (kT 1, some (.tv (.v .str v0_1 .no))), (kT 5, some (.tv (.v (.slice 9 .str) [] (.own 40)))), (kT 6, some (.tv (.v (.int .i64) v0_2 .no))), (kR 40, some (.row 9 .str v0_3))]
noncomputable def L_P_spec_AlikeIn_0 (f0 : ByteArray → ByteArray → Bool) (g0 : ByteArray → ByteArray → Bool) (n m : Nat) : St → Option Ret := loopOf tab sigs (OP_spec_AlikeIn f0 g0) A_spec_AlikeIn Try.f16 [((.slice 9 .str), (.own 0))] n (fun _ => 0) 0 m
theorem bP_spec_AlikeIn_0 (f0 : ByteArray → ByteArray → Bool) (g0 : ByteArray → ByteArray → Bool) (n m : Nat) (v0_0 : (List TEntry)) (v0_1 : ByteArray) (v0_2 : Int) (v0_3 : (List ByteArray)) : L_P_spec_AlikeIn_0 f0 g0 n (m + 1) (S_spec_AlikeIn_0 v0_0 v0_1 v0_2 v0_3) = spec_AlikeIn_P_L0 f0 g0 (fun r0 => some [⟨(.slice 9 .str), r0⟩]) (fun v0_0 v0_1 v0_2 v0_3 => L_P_spec_AlikeIn_0 f0 g0 n m (S_spec_AlikeIn_0 v0_0 v0_1 v0_2 v0_3)) v0_0 v0_1 v0_2 v0_3 := by kernel_rfl
theorem aP_spec_AlikeIn (f0 : ByteArray → ByteArray → Bool) (g0 : ByteArray → ByteArray → Bool) (n : Nat) (a0 : (List TEntry)) (a1 : ByteArray) : absF tab sigs (OP_spec_AlikeIn f0 g0) A_spec_AlikeIn Try.f16 [((.slice 9 .str), (.own 0))] n [.val (.slice 32 TyEntry) a0, .val .str a1] = spec_AlikeIn_P f0 g0 (fun r0 => some [⟨(.slice 9 .str), r0⟩]) (fun v0_0 v0_1 v0_2 v0_3 => L_P_spec_AlikeIn_0 f0 g0 n n (S_spec_AlikeIn_0 v0_0 v0_1 v0_2 v0_3)) a0 a1 := by kernel_rfl
theorem said_spec_AlikeIn (a0 : (List TEntry)) (a1 : ByteArray) (g : G.spec_AlikeIn a0 a1 = true) : Said Try.prog sigs_16 16 [.val (.slice 32 TyEntry) a0, .val .str a1] [⟨(.slice 9 .str), N.spec_AlikeIn a0 a1⟩] := said_len (T := tab) (A := A_spec_AlikeIn) tabOk ok_spec_AlikeIn tabOk.follows Try.func16 (by kernel_rfl) (by kernel_rfl) (fun hl => let ⟨n, hn⟩ := spec_AlikeIn_ok (ρ := Ret) (fun r0 => some [⟨(.slice 9 .str), r0⟩]) a0 a1 hl.1 g; ⟨n, (aP_spec_AlikeIn N.spec_LooksLike G.spec_LooksLike n a0 a1).trans (hn n (Nat.le_refl n) (fun  m v0_0 v0_1 v0_2 v0_3 => L_P_spec_AlikeIn_0 N.spec_LooksLike G.spec_LooksLike n  m (S_spec_AlikeIn_0 v0_0 v0_1 v0_2 v0_3)) (fun  m v0_0 v0_1 v0_2 v0_3 => bP_spec_AlikeIn_0 N.spec_LooksLike G.spec_LooksLike n  m v0_0 v0_1 v0_2 v0_3))⟩)
abbrev N.impl_InRange (n lo hi : Int) : Bool := inR n lo hi
def impl_InRange {ρ : Type} (k : Bool → Option ρ) (a0 : Int) (a1 : Int) (a2 : Int) : Option ρ := (cond (decide (a1 ≤ a0)) (k (decide (a0 ≤ a2))) (k false))
theorem impl_InRange_ok {ρ : Type} (k : Bool → Option ρ) (a0 : Int) (a1 : Int) (a2 : Int) : impl_InRange k  a0 a1 a2 = k (N.impl_InRange a0 a1 a2) := by
  simp only [impl_InRange, inR]
  cases decide (a1 ≤ a0) <;> rfl
def O_impl_InRange : Orac := nilO
theorem ok_impl_InRange : OracOk Try.prog sigs O_impl_InRange := nilO_ok
def A_impl_InRange : Ann := fun b => ⟨[], []⟩
theorem a_impl_InRange (n : Nat) (a0 : Int) (a1 : Int) (a2 : Int) : absF tab sigs O_impl_InRange A_impl_InRange Try.f52 [(.bool, .no)] n [.val (.int .i64) a0, .val (.int .i64) a1, .val (.int .i64) a2] = impl_InRange (fun r0 => some [⟨.bool, r0⟩])  a0 a1 a2 := by kernel_rfl
theorem said_impl_InRange (a0 : Int) (a1 : Int) (a2 : Int) : Said Try.prog sigs_52 52 [.val (.int .i64) a0, .val (.int .i64) a1, .val (.int .i64) a2] [⟨.bool, N.impl_InRange a0 a1 a2⟩] := said_len (T := tab) (A := A_impl_InRange) tabOk ok_impl_InRange tabOk.follows Try.func52 (by kernel_rfl) (by kernel_rfl) (fun hl => ⟨0, (a_impl_InRange 0 a0 a1 a2).trans (impl_InRange_ok (ρ := Ret) (fun r0 => some [⟨.bool, r0⟩]) a0 a1 a2)⟩)
abbrev G.impl_IsLabel (s : ByteArray) : Bool := decide (s.size ≤ 1048576)
abbrev N.impl_IsLabel (s : ByteArray) : Bool := isLabel s
def impl_IsLabel_P_L0 {ρ : Type} (f0 : Int → Int → Int → Bool) (k : Bool → Option ρ) (L0 : ByteArray → Int → Int → Option ρ) (v0_0 : ByteArray) (v0_1 : Int) (v0_2 : Int) : Option ρ := (cond (decide (v0_2 < v0_1)) (cond (inRange v0_2 (ByteArray.size v0_0)) (cond (decide ((bt v0_0 v0_2) ≥ (97 : Int))) (cond (decide ((bt v0_0 v0_2) ≤ (122 : Int))) (L0 v0_0 v0_1 (IntKind.wrap .i64 (v0_2 + (1 : Int)))) (cond (decide ((bt v0_0 v0_2) ≥ (48 : Int))) (cond (decide ((bt v0_0 v0_2) ≤ (57 : Int))) (L0 v0_0 v0_1 (IntKind.wrap .i64 (v0_2 + (1 : Int)))) (cond ((bt v0_0 v0_2) == (45 : Int)) (cond (decide (v0_2 > (0 : Int))) (cond (!(decide (v0_2 < (IntKind.wrap .i64 ((ByteArray.size v0_0 : Int) - (1 : Int)))))) (k false) (L0 v0_0 v0_1 (IntKind.wrap .i64 (v0_2 + (1 : Int))))) (k false)) (k false))) (cond ((bt v0_0 v0_2) == (45 : Int)) (cond (decide (v0_2 > (0 : Int))) (cond (!(decide (v0_2 < (IntKind.wrap .i64 ((ByteArray.size v0_0 : Int) - (1 : Int)))))) (k false) (L0 v0_0 v0_1 (IntKind.wrap .i64 (v0_2 + (1 : Int))))) (k false)) (k false)))) (cond (decide ((bt v0_0 v0_2) ≥ (48 : Int))) (cond (decide ((bt v0_0 v0_2) ≤ (57 : Int))) (L0 v0_0 v0_1 (IntKind.wrap .i64 (v0_2 + (1 : Int)))) (cond ((bt v0_0 v0_2) == (45 : Int)) (cond (decide (v0_2 > (0 : Int))) (cond (!(decide (v0_2 < (IntKind.wrap .i64 ((ByteArray.size v0_0 : Int) - (1 : Int)))))) (k false) (L0 v0_0 v0_1 (IntKind.wrap .i64 (v0_2 + (1 : Int))))) (k false)) (k false))) (cond ((bt v0_0 v0_2) == (45 : Int)) (cond (decide (v0_2 > (0 : Int))) (cond (!(decide (v0_2 < (IntKind.wrap .i64 ((ByteArray.size v0_0 : Int) - (1 : Int)))))) (k false) (L0 v0_0 v0_1 (IntKind.wrap .i64 (v0_2 + (1 : Int))))) (k false)) (k false)))) none) (k (f0 (ByteArray.size v0_0 : Int) (1 : Int) (8 : Int))))
def impl_IsLabel_P {ρ : Type} (f0 : Int → Int → Int → Bool) (k : Bool → Option ρ) (L0 : ByteArray → Int → Int → Option ρ) (a0 : ByteArray) : Option ρ := (L0 a0 (ByteArray.size a0 : Int) (0 : Int))
def impl_IsLabel_L0 {ρ : Type} (k : Bool → Option ρ) (L0 : ByteArray → Int → Int → Option ρ) (v0_0 : ByteArray) (v0_1 : Int) (v0_2 : Int) : Option ρ := impl_IsLabel_P_L0 N.impl_InRange k L0 v0_0 v0_1 v0_2
def impl_IsLabel {ρ : Type} (k : Bool → Option ρ) (L0 : ByteArray → Int → Int → Option ρ) (a0 : ByteArray) : Option ρ := impl_IsLabel_P N.impl_InRange k L0 a0
theorem impl_IsLabel_ok {ρ : Type} (k : Bool → Option ρ) (a0 : ByteArray) (g : G.impl_IsLabel a0 = true) : ∃ n0, ∀ n, n0 ≤ n → ∀ (L0 : Nat → ByteArray → Int → Int → Option ρ) (h0 : ∀ ( m : Nat) (v0_0 : ByteArray) (v0_1 : Int) (v0_2 : Int), L0 (m + 1) v0_0 v0_1 v0_2 = impl_IsLabel_L0 k (L0 m) v0_0 v0_1 v0_2), impl_IsLabel k (L0 n) a0 = k (N.impl_IsLabel a0) := by
  unfold G.impl_IsLabel at g
  have hlen : a0.size ≤ 1048576 := of_decide_eq_true g
  refine ⟨a0.size + 1, fun n hn L0 h0 => ?_⟩
  show L0 n a0 (a0.size : Int) 0 = k (isLabel a0)
  have hrun := raw_run0 (σ := Unit) (s := ()) (L := fun m i _ => L0 m a0 (a0.size : Int) i) (R := fun i _ c => impl_IsLabel_L0 k (fun _ _ i => c i ()) a0 (a0.size : Int) i) (fun m i s => h0 m a0 (a0.size : Int) i) a0.size (fun _ _ => True) (fun j _ => cond (labelBytes a0 (a0.size - j) j) (k (inR (a0.size : Int) 1 8)) (k false)) (fun j s c hj _ hc => ?_) (fun s c _ => ?_) hn trivial
  · refine hrun.trans ?_
    unfold isLabel
    rw [Nat.sub_zero]
    cases labelBytes a0 a0.size 0 <;> cases inR (a0.size : Int) 1 8 <;> rfl
  · obtain ⟨m, hm⟩ : ∃ m, a0.size - j = m + 1 := ⟨a0.size - j - 1, by omega⟩
    have hm2 : a0.size - (j + 1) = m := by omega
    have hc' := hc () trivial
    rw [hm2] at hc'
    have e1 : decide ((j : Int) < IntKind.wrap .i64 ((a0.size : Int) - 1)) = decide (j + 1 < a0.size) := by rw [wrap_id (by omega) (by omega)]; simp only [decide_eq_decide]; omega
    have e2 : decide ((j : Int) > 0) = decide (0 < j) := by simp only [decide_eq_decide]; omega
    rw [hm]
    unfold labelBytes okByte isLetter
    simp only [impl_IsLabel_L0, impl_IsLabel_P_L0, lt_nat, inRange_nat, decide_eq_true hj, cond_true, wrap_succ (j := j) (by unfold big; omega), hc', e1, e2, ge_iff_le, N.impl_InRange]
    generalize bt a0 (j : Int) = b
    cases decide (97 ≤ b) <;> cases decide (b ≤ 122) <;> cases decide (48 ≤ b) <;> cases decide (b ≤ 57) <;> cases b == 45 <;> cases decide (0 < j) <;> cases decide (j + 1 < a0.size) <;> rfl
  · rw [Nat.sub_self]
    simp [impl_IsLabel_L0, impl_IsLabel_P_L0, labelBytes]
def OP_impl_IsLabel (f0 : Int → Int → Int → Bool) : Orac := (orcX 52 [.val (.int .i64), .val (.int .i64), .val (.int .i64)] (fun d => true) (fun d => [⟨.bool, f0 d.1 d.2.1 d.2.2.1⟩]) nilO)
def O_impl_IsLabel : Orac := OP_impl_IsLabel N.impl_InRange
theorem ok_impl_IsLabel : OracOk Try.prog sigs O_impl_IsLabel := (orcX_ok rfl rfl (fun d g => said_impl_InRange d.1 d.2.1 d.2.2.1) nilO_ok)
def A_impl_IsLabel : Ann := fun b => cond (Nat.beq b 0) ⟨[(0, false), (6, false), (7, false)], []⟩ (⟨[], []⟩)
def S_impl_IsLabel_0 (v0_0 : ByteArray) (v0_1 : Int) (v0_2 : Int) : St := [(kT 0, some (.tv (.v .str v0_0 .no))), (kT 6, some (.tv (.v (.int .i64) v0_1 .no))), (kT 7, some (.tv (.v (.int .i64) v0_2 .no)))]
noncomputable def L_P_impl_IsLabel_0 (f0 : Int → Int → Int → Bool) (n m : Nat) : St → Option Ret := loopOf tab sigs (OP_impl_IsLabel f0) A_impl_IsLabel Try.f48 [(.bool, .no)] n (fun _ => 0) 0 m
theorem bP_impl_IsLabel_0 (f0 : Int → Int → Int → Bool) (n m : Nat) (v0_0 : ByteArray) (v0_1 : Int) (v0_2 : Int) : L_P_impl_IsLabel_0 f0 n (m + 1) (S_impl_IsLabel_0 v0_0 v0_1 v0_2) = impl_IsLabel_P_L0 f0 (fun r0 => some [⟨.bool, r0⟩]) (fun v0_0 v0_1 v0_2 => L_P_impl_IsLabel_0 f0 n m (S_impl_IsLabel_0 v0_0 v0_1 v0_2)) v0_0 v0_1 v0_2 := by kernel_rfl
theorem aP_impl_IsLabel (f0 : Int → Int → Int → Bool) (n : Nat) (a0 : ByteArray) : absF tab sigs (OP_impl_IsLabel f0) A_impl_IsLabel Try.f48 [(.bool, .no)] n [.val .str a0] = impl_IsLabel_P f0 (fun r0 => some [⟨.bool, r0⟩]) (fun v0_0 v0_1 v0_2 => L_P_impl_IsLabel_0 f0 n n (S_impl_IsLabel_0 v0_0 v0_1 v0_2)) a0 := by kernel_rfl
theorem said_impl_IsLabel (a0 : ByteArray) (g : G.impl_IsLabel a0 = true) : Said Try.prog sigs_48 48 [.val .str a0] [⟨.bool, N.impl_IsLabel a0⟩] := said_len (T := tab) (A := A_impl_IsLabel) tabOk ok_impl_IsLabel tabOk.follows Try.func48 (by kernel_rfl) (by kernel_rfl) (fun hl => let ⟨n, hn⟩ := impl_IsLabel_ok (ρ := Ret) (fun r0 => some [⟨.bool, r0⟩]) a0 g; ⟨n, (aP_impl_IsLabel N.impl_InRange n a0).trans (hn n (Nat.le_refl n) (fun  m v0_0 v0_1 v0_2 => L_P_impl_IsLabel_0 N.impl_InRange n  m (S_impl_IsLabel_0 v0_0 v0_1 v0_2)) (fun  m v0_0 v0_1 v0_2 => bP_impl_IsLabel_0 N.impl_InRange n  m v0_0 v0_1 v0_2))⟩)
abbrev G.impl_PlainOf (s : ByteArray) : Bool := decide (s.size ≤ 8)
abbrev N.impl_PlainOf (s : ByteArray) : ByteArray := plainOf s
-- HAND
namespace Rpl
open Go.Lib Go.Proofs Go.Proofs.Ytcmjbplnjjdcdaa
abbrev muLinkT : Go.Conc.Locks.MuLink := { lock := 70, unlock := 71, ilock := 75, iunlock := 76, lockSlow := 85, unlockSlow := 88, disable := 81, enable := 83, acquire := 84, relMerge := 86, cas32 := 82, add32 := 87, tMutex := 77, tIMutex := 75, tPMutex := 104, tPIMutex := 118, tPI32 := 120, tUP := 122, tNoCopy := 69, tU32 := 71 }
theorem muLibT : Go.Conc.Locks.MuLib Try.prog muLinkT :=
  ⟨Try.func70, Try.func71, Try.func75, Try.func76, Try.func81, Try.func83, Try.func84, Try.func86, Try.func82, Try.func87, Try.underlying75, Try.runUnderlying75, Try.sizeOf75, Try.isAgg75, Try.zeroValue75, Try.underlying77, Try.runUnderlying77, Try.sizeOf77, Try.isAgg77, Try.zeroValue77, Try.underlying104, Try.runUnderlying104, Try.sizeOf104, Try.isAgg104, Try.zeroValue104, Try.underlying118, Try.runUnderlying118, Try.sizeOf118, Try.isAgg118, Try.zeroValue118, Try.underlying120, Try.runUnderlying120, Try.sizeOf120, Try.isAgg120, Try.zeroValue120, Try.underlying122, Try.runUnderlying122, Try.sizeOf122, Try.isAgg122, Try.zeroValue122, Try.underlying69, Try.runUnderlying69, Try.sizeOf69, Try.isAgg69, Try.zeroValue69, Try.underlying21, Try.runUnderlying21, Try.sizeOf21, Try.isAgg21, Try.zeroValue21, (by kernel_rfl)⟩
set_option maxHeartbeats 1000000 in
theorem load66 (a : Addr) (x : Int) (w : World) (hc : w.cell? a = some (.int .u32 x)) (hw : x = 0 ∨ x = 1) : Calls Try.prog 66 #[.pointer (some a)] w fun e w' => e = .returned (.bool (decide (x = 1))) ∧ w' = w := by
  have h69 : (callFunc 69 #[.pointer (some a)]).run Try.prog w = .ok (.value (.int .u32 x)) w := run_call_load Try.func69 (by kernel_rfl) (by kernel_rfl) (by kernel_rfl) .u32 (by kernel_rfl) hc
  go_enter Try.func66, Try.ntmps66
  go_wp2_with (simp only [h69])
  go_ret
  rcases hw with rfl | rfl <;> exact ⟨rfl, rfl⟩
set_option maxHeartbeats 1000000 in
theorem b32_78 (w : World) : Calls Try.prog 78 #[.bool true] w fun e w' => e = .returned (.int .u32 1) ∧ w' = w := by
  go_enter Try.func78, Try.ntmps78
  go_wp2
  go_ret
  exact ⟨rfl, rfl⟩
set_option maxHeartbeats 1000000 in
theorem store72 (a : Addr) (u : Value) (uf : FrameMode) (w : World) (hc : w.cell? a = some u) (hz : w.frozen? a = false) : CallsD Try.prog 72 #[.pointer (some a), .bool true] uf w fun e u' w' => u' = uf ∧ (e = .returned (.tuple #[]) ∧ w' = w.drew.setCell a (.int .u32 1)) := by
  have mixed : Try.prog.follows .mixedOrders = true := by kernel_rfl
  have h77 : (callFunc 77 #[.pointer (some a), .int .u32 1]).run Try.prog w.drew = .ok (.value (.tuple #[])) (w.drew.setCell a (.int .u32 1)) := run_call_store Try.func77 (by kernel_rfl) (by kernel_rfl) (by kernel_rfl) (by kernel_rfl) hc hz
  have h78 := b32_78 w.drew
  go_enter_d Try.func72, Try.ntmps72
  go_wp2_with fail
  go_region_calls
  go_end0
  exact ⟨rfl, rfl⟩
set_option maxHeartbeats 4000000 in
set_option maxRecDepth 100000 in
theorem new57 (b0 : Nat) (w : World) (ss : List Value) (hl : ss.length = 8) (h1 : ∀ v ∈ ss, v.oneCell' = true) (hc : ∀ j v, ss[j]? = some v → w.cell? ⟨b0, j, none⟩ = some v) :
    Calls Try.prog 57 #[.slice (some ⟨b0, 0, none⟩) 8 8] w fun e w' => ∃ G, e = .returned (.pointer (some ⟨w.heap.size + 1, 0, none⟩)) ∧ G ≤ 9223372036854775807 ∧ 8 ≤ G ∧
      w' = (w.drew.alloc (.cells (ss.toArray ++ Builtin.zeroCells (Value.string ⟨#[]⟩).cells (G - 8)) 9)).alloc (.cells #[.int .u32 0, .int .i32 0, .int .u32 0, .nilIface, .slice (some ⟨w.heap.size, 0, none⟩) 8 G] 83) := by
  obtain ⟨i0, hi0, hzz⟩ := Option.map_eq_some_iff.1 (show (Try.prog.info? 9).map (fun i => (i.zero, i.size, i.bytes)) = some (some (.string ⟨#[]⟩), 1, 16) by kernel_rfl)
  simp only [Prod.mk.injEq] at hzz
  obtain ⟨hz0, hzs, hzb⟩ := hzz
  have hsrc : Src Try.prog i0.size 23 (.slice (some ⟨b0, 0, none⟩) 8 8) 8 ss w := by
    rw [hzs]
    exact Src.ofSlice w Try.underlying23 ⟨b0, 0, none⟩ 8 8 ss (by omega) (fun j u hj => by rw [Addr.add_lit, Nat.zero_add]; exact hc j u hj) h1
  have hold : (Builtin.firstCells i0.size 0 (.slice none 0 0)).run Try.prog w.drew = .ok (#[] : Array Value) w.drew := by
    rw [hzs]
    exact run_firstCells_none w.drew 1 0 0 0
  have hrun : ∀ ty, (Builtin.append_ #[23, 23] ty #[.slice none 0 0, .slice (some ⟨b0, 0, none⟩) 8 8]).run Try.prog w = _ := fun ty =>
    run_append_grow_src w 23 23 ty 9 i0 _ Try.underlying23 hi0 hz0 none 0 0 [] hold _ 8 ss hsrc (by omega) (by omega) (by rw [hzb]; exact growslice_fits (by omega) (by omega))
  have hGn : 0 + 8 ≤ grownCap w (0 + 8) 0 9 := grownCap_ge w _ _ _
  have hG63 : grownCap w (0 + 8) 0 9 ≤ maxLen := grownCap_le_maxLen w (0 + 8) 0 9 (by unfold maxLen; omega)
  obtain ⟨G, hG⟩ : ∃ G, G = grownCap w (0 + 8) 0 9 := ⟨_, rfl⟩
  rw [← hG] at hrun hGn hG63
  have hG64 : G ≤ 9223372036854775807 := by unfold maxLen at hG63; omega
  obtain ⟨ROW, hROW⟩ : ∃ ROW : Array Value, ROW = ([] ++ ss).toArray ++ Builtin.zeroCells (Value.string ⟨#[]⟩).cells (G - (0 + 8)) := ⟨_, rfl⟩
  rw [← hROW] at hrun
  have key : Calls Try.prog 57 #[.slice (some ⟨b0, 0, none⟩) 8 8] w fun e w' => e = .returned (.pointer (some ⟨w.heap.size + 1, 0, none⟩)) ∧ w' = (w.drew.alloc (.cells ROW 9)).alloc (.cells #[.int .u32 0, .int .i32 0, .int .u32 0, .nilIface, .slice (some ⟨w.heap.size, 0, none⟩) 8 G] 83) := by
    clear hc h1 hsrc hold hROW hG
    go_enter Try.func57, Try.ntmps57
    go_wp2_with (at_builtin; refine Lib.wpList_append_run _ rfl _ _ _ _ rfl _ _ rfl rfl _ _ (hrun _) ?_)
    go_ret
    exact ⟨by simp [World.alloc, World.drew], rfl⟩
  exact key.mono fun e w' h => ⟨G, h.1, hG64, by omega, by rw [h.2, hROW]; rfl⟩

set_option maxHeartbeats 4000000 in
set_option maxRecDepth 1000000 in
theorem build68 (R A G : Nat) (w : World) (hA : A < w.heap.size) (hG : 8 ≤ G) (hr : w.cell? ⟨R, 4, none⟩ = some (.slice (some ⟨A, 0, none⟩) 8 G))
    (c0 : w.cell? ⟨A, 0, none⟩ = some (.string ⟨#[48]⟩)) (c1 : w.cell? ⟨A, 1, none⟩ = some (.string ⟨#[111]⟩)) (c2 : w.cell? ⟨A, 2, none⟩ = some (.string ⟨#[49]⟩)) (c3 : w.cell? ⟨A, 3, none⟩ = some (.string ⟨#[108]⟩))
    (c4 : w.cell? ⟨A, 4, none⟩ = some (.string ⟨#[53]⟩)) (c5 : w.cell? ⟨A, 5, none⟩ = some (.string ⟨#[115]⟩)) (c6 : w.cell? ⟨A, 6, none⟩ = some (.string ⟨#[45]⟩)) (c7 : w.cell? ⟨A, 7, none⟩ = some (.string ⟨#[]⟩)) :
    Calls Try.prog 68 #[.pointer (some ⟨R, 0, none⟩)] w fun e w' => e = .returned (.iface 103 (.pointer (some ⟨w.heap.size + 1, 0, none⟩))) ∧ BInv w A w.heap.size (w.heap.size + 1) 0 w' := by
  obtain ⟨i9, hi9, hzz⟩ := Option.map_eq_some_iff.1 (show (Try.prog.info? 9).map (fun i => (i.zero, i.size, i.bytes)) = some (some (.string ⟨#[]⟩), 1, 16) by kernel_rfl)
  simp only [Prod.mk.injEq] at hzz
  obtain ⟨hz0, hzs, hzb⟩ := hzz
  have hmk0 := run_makeSlice (P := Try.prog) (w := w) 23 9 i9 _ Try.underlying23 hi9 hz0 .i64 .i64 0 4 (by omega) (by omega) (by rw [hzs]; decide) (by rw [hzb]; decide) (by omega)
  obtain ⟨W1, hW1⟩ : ∃ W1, W1 = w.alloc (.cells (madeCells (Value.string ⟨#[]⟩).cells ((4 : Int).toNat * i9.size)) 9) := ⟨_, rfl⟩
  have hmk : (Instr.makeSlice 23 (.int .i64 0) (.int .i64 4)).run Try.prog w = .ok (.slice (some ⟨w.heap.size, 0, none⟩) 0 4) W1 := by rw [hW1]; exact hmk0
  have old : ∀ b j v, w.cell? ⟨b, j, none⟩ = some v → W1.cell? ⟨b, j, none⟩ = some v := fun b j v h => by rw [hW1, World.cell?_alloc_past _ b j (block_lt_of_cell h)]; exact h
  have X : Aside (W1 = w.alloc (.cells (madeCells (Value.string ⟨#[]⟩).cells ((4 : Int).toNat * i9.size)) 9)) := hW1
  clear hmk0 hW1
  -- the struct of 257 cells
  obtain ⟨Z, hZ⟩ : ∃ Z : List Value, Z = Try.zeroCells102.toList.set 256 (.slice (some ⟨w.heap.size, 0, none⟩) 0 4) := ⟨_, rfl⟩
  have hZs : Try.zeroCells102.size = 257 := by kernel_rfl
  have hZl : Z.length = 257 := by rw [hZ, List.length_set, Array.length_toList, hZs]
  have hZ1 : ∀ v ∈ Z, v.oneCell' = true := by
    intro v hv
    rw [hZ] at hv
    rcases List.mem_or_eq_of_mem_set hv with h | h
    · exact (List.all_eq_true.1 (show Try.zeroCells102.toList.all (fun v => v.oneCell') = true by kernel_rfl)) v h
    · rw [h]; rfl
  have hcell : ∀ j, j < 257 → ((W1.alloc (.cells Try.zeroCells102 102)).cell? ⟨W1.heap.size, j, none⟩).isSome = true := by
    intro j hj
    rw [World.cell?_alloc_at (w := W1) Try.zeroCells102 _ W1.heap.size j rfl, Array.getElem?_eq_getElem (by omega)]; rfl
  have hfro : ∀ j, (W1.alloc (.cells Try.zeroCells102 102)).frozen? ⟨W1.heap.size, j, none⟩ = false := by
    intro j
    exact World.frozen?_alloc_at (w := W1) Try.zeroCells102 _ W1.heap.size j rfl
  have hst := run_storeCells_cells (P := Try.prog) W1.heap.size 0 Z 0 (W1.alloc (.cells Try.zeroCells102 102)) (fun j hj => by rw [Nat.add_zero, Nat.zero_add]; exact hcell j (by omega)) (fun j hj => hfro _) hZ1
  rw [hZ] at hst
  obtain ⟨W2, hW2⟩ : ∃ W2, W2 = (W1.alloc (.cells Try.zeroCells102 102)).setCells W1.heap.size (0 + 0) (Try.zeroCells102.toList.set 256 (.slice (some ⟨w.heap.size, 0, none⟩) 0 4)) := ⟨_, rfl⟩
  rw [← hW2] at hst
  have X2 : Aside (W2 = (W1.alloc (.cells Try.zeroCells102 102)).setCells W1.heap.size (0 + 0) (Try.zeroCells102.toList.set 256 (.slice (some ⟨w.heap.size, 0, none⟩) 0 4))) := hW2
  have at2 : ∀ j u, Z[j]? = some u → W2.cell? ⟨W1.heap.size, j, none⟩ = some u := by
    intro j u hj
    have hjl : j < Z.length := (List.getElem?_eq_some_iff.1 hj).1
    rw [hW2, ← hZ]
    have := World.cell?_setCells_in W1.heap.size Z (0 + 0) (W1.alloc (.cells Try.zeroCells102 102)) (fun t ht => by rw [Nat.add_zero, Nat.zero_add]; exact hcell t (by omega)) j hjl
    rw [Nat.add_zero, Nat.zero_add] at this
    rw [this, ← hj, List.getElem?_eq_getElem hjl]
  have fro2 : ∀ j, W2.frozen? ⟨W1.heap.size, j, none⟩ = false := by
    intro j
    rw [hW2, World.frozen?_setCells]
    exact hfro j
  have tb : ∀ j, j < 256 → W2.cell? ⟨W1.heap.size, j, none⟩ = some (.slice none 0 0) := by
    intro j hj
    refine at2 j _ ?_
    rw [hZ, List.getElem?_set_ne (by omega)]
    have hall : ∀ j, j < 256 → Try.zeroCells102.toList[j]? = some (.slice none 0 0) := by
      have h0 : (List.range 256).all (fun j => match Try.zeroCells102.toList[j]? with | some (.slice none 0 0) => true | _ => false) = true := by kernel_rfl
      intro j hj
      have := List.all_eq_true.1 h0 j (List.mem_range.2 hj)
      split at this
      · assumption
      · cases this
    exact hall j hj
  have t256 : W2.cell? ⟨W1.heap.size, 256, none⟩ = some (.slice (some ⟨w.heap.size, 0, none⟩) 0 4) := by
    refine at2 256 _ ?_
    rw [hZ, List.getElem?_set_self (by rw [Array.length_toList, hZs]; omega)]
  have hT : W1.heap.size = w.heap.size + 1 := by rw [X.out, World.size_alloc]
  have szA : (W1.alloc (.cells Try.zeroCells102 102)).heap.size = w.heap.size + 2 := by rw [World.size_alloc, hT]
  have far2 : ∀ b j, b < W1.heap.size → W2.cell? ⟨b, j, none⟩ = W1.cell? ⟨b, j, none⟩ := fun b j hb => by
    rw [hW2, World.cell?_setCells_out _ _ _ _ _ (fun e => by have e : b = W1.heap.size := e; omega), World.cell?_alloc_past _ _ _ hb]
  have hmc : (madeCells (Value.string ⟨#[]⟩).cells ((4 : Int).toNat * i9.size)).size = 4 := by
    rw [hzs]; simp [madeCells, Builtin.zeroCells]
  have BI : BInv w A w.heap.size W1.heap.size 4 W2 := by
    have cc : ∀ j v, w.cell? ⟨A, j, none⟩ = some v → W2.cell? ⟨A, j, none⟩ = some v := fun j v h => by
      rw [far2 A j (by omega)]; exact old A j v h
    refine ⟨Nat.le_refl _, ?_, ?_, cc _ _ c0, cc _ _ c1, cc _ _ c2, cc _ _ c3, cc _ _ c4, cc _ _ c5, cc _ _ c6, cc _ _ c7, t256, ?_, ?_, fro2, fun j hj _ => tb j hj, fun i h1 h2 => by omega⟩
    · rw [hW2]
      refine below_put (Below.alloc ?_ (by omega) _) (by omega) _ _
      rw [X.out]
      exact Below.alloc (Below.refl _ _) (Nat.le_refl _) _
    · rw [hW2, size_put, World.size_alloc]; omega
    · intro j hj
      rw [far2 _ j (by omega), X.out, World.cell?_alloc_new, Array.getElem?_eq_getElem (by omega)]; rfl
    · intro j
      rw [hW2, World.frozen?_setCells, World.frozen?_alloc_past _ _ _ (by omega), X.out, World.frozen?_alloc_new]
  clear hW2 hZ hZl hZ1 hcell hfro at2 szA far2 hmc hT
  go_enter Try.func68, Try.ntmps68
  go_wp2
  go_rounds 5
  clear c0 c1 c2 c3 c4 c5 c6 c7 hmk tb t256 fro2 hst hr hz0 hzb old
  go_loopg [12] 4 (fun k p wr => p = .int .i64 (2 * (k : Int) - 2) ∧ BInv w A w.heap.size W1.heap.size k wr)
  case atStart => exact ⟨rfl, BI⟩
  case round =>
    obtain ⟨hp, hb⟩ := hrel
    have h4 := hb.k4
    have hW1 : W1.heap.size = w.heap.size + 1 := by
      rw [X.out, World.size_alloc]
    obtain hk | hk | hk | hk | hk : gk = 4 ∨ gk = 3 ∨ gk = 2 ∨ gk = 1 ∨ gk = 0 := by omega
    all_goals subst hk
    -- ROUNDS
    · replace hp : u12 = .int .i64 6 := hp
      subst hp
      have ci := hb.cA6
      have cj := hb.cA7
      have h256 : wr.cell? ⟨W1.heap.size, 256, none⟩ = some (.slice (some ⟨w.heap.size, 0, none⟩) 0 4) := hb.t256
      have htd := hb.todo 45 (by omega) (by decide)
      have hbig := hb.big
      have e0 : ∀ h, ((⟨#[45]⟩ : ByteArray)[0]'h).toNat = 45 := fun _ => rfl
      have hn := Lib.run_eql_slice_nil (P := Try.prog) wr 59 5 none 0 0 0 0 Try.underlying59
      have hcv : (convert 59 9 (.slice (some ⟨wr.heap.size, 0, none⟩) 1 1)).run Try.prog (wr.alloc (.cells #[.int .u8 45] 5)) = .ok (.string ⟨#[45]⟩) (wr.alloc (.cells #[.int .u8 45] 5)) := conv1 wr 59 9 5 45 Try.underlying59 (by kernel_rfl) (by kernel_rfl)
      obtain ⟨Wc, hWc⟩ : ∃ Wc, Wc = ((wr.alloc (.cells #[.int .u8 45] 5)).alloc (.cells #[.string ⟨#[45]⟩] 9)).setCells w.heap.size (0 + (4 - (3 + 1))) [.string ⟨#[45]⟩] := ⟨_, rfl⟩
      have hap : ∀ ty, (Builtin.append_ #[23, 23] ty #[.slice (some ⟨w.heap.size, 0, none⟩) 0 4, .slice (some ⟨wr.heap.size + 1, 0, none⟩) 1 1]).run Try.prog ((wr.alloc (.cells #[.int .u8 45] 5)).alloc (.cells #[.string ⟨#[45]⟩] 9)) = .ok (.slice (some ⟨w.heap.size, 0, none⟩) 1 4) Wc := fun ty => by
        rw [hWc]
        exact app1 (k := 3) hb rfl hW1 23 9 i9 Try.underlying23 hi9 hzs (.cells #[.int .u8 45] 5) ⟨#[45]⟩ ty
      obtain ⟨Wd, hWd⟩ : ∃ Wd, Wd = Wc.setCell ⟨W1.heap.size, 256, none⟩ (.slice (some ⟨w.heap.size, 0, none⟩) (4 - 3) 4) := ⟨_, rfl⟩
      have hbs := run_bytes_of_string (P := Try.prog) Wd 9 59 5 ⟨#[]⟩ (by kernel_rfl) Try.underlying59 (by kernel_rfl)
      obtain ⟨cap, hcap⟩ : ∃ cap, cap = grownCap Wd (ByteArray.size ⟨#[]⟩) 0 5 := ⟨_, rfl⟩
      rw [← hcap] at hbs
      obtain ⟨We, hWe⟩ : ∃ We, We = Wd.drew.alloc (.cells (bytesRow ⟨#[]⟩ cap) 5 ((bytesRow ⟨#[]⟩ cap).size, (bytesRow ⟨#[]⟩ cap).size + 1)) := ⟨_, rfl⟩
      rw [← hWe] at hbs
      replace hbs : (convert 9 59 (.string ⟨#[]⟩)).run Try.prog Wd = .ok (.slice (some ⟨Wd.heap.size, 0, none⟩) 0 cap) We := hbs
      have hnx := BInv.next (k := 3) (cap := cap) hb hA rfl hW1 hWc hWd hWe (row_bytes [] cap)
      have szc : Wc.heap.size = wr.heap.size + 2 := by rw [hWc, size_put, World.size_alloc, World.size_alloc]
      have q1 : Wc.cell? ⟨W1.heap.size, 256, none⟩ = some (.slice (some ⟨w.heap.size, 0, none⟩) 0 4) := by
        rw [hWc, World.cell?_setCells_out _ _ _ _ _ (fun e => by have e : W1.heap.size = w.heap.size := e; omega), World.cell?_alloc_past _ _ _ (by rw [World.size_alloc]; exact Nat.lt_succ_of_lt hbig), World.cell?_alloc_past _ _ _ hbig]
        exact h256
      have q2 : Wc.frozen? ⟨W1.heap.size, 256, none⟩ = false := by
        rw [hWc, World.frozen?_setCells, World.frozen?_alloc_past _ _ _ (by rw [World.size_alloc]; exact Nat.lt_succ_of_lt hbig), World.frozen?_alloc_past _ _ _ hbig]
        exact hb.froT _
      have szd : Wd.heap.size = wr.heap.size + 2 := by rw [hWd, World.size_setCell, szc]
      have q3 : We.cell? ⟨W1.heap.size, 45, none⟩ = some (.slice none 0 0) := by
        rw [hWe, World.cell?_alloc_past _ _ _ (by rw [World.size_drew, szd]; omega), World.cell?_drew, hWd, sc_ne (by omega), hWc, World.cell?_setCells_out _ _ _ _ _ (fun e => by have e : W1.heap.size = w.heap.size := e; omega), World.cell?_alloc_past _ _ _ (by rw [World.size_alloc]; exact Nat.lt_succ_of_lt hbig), World.cell?_alloc_past _ _ _ hbig]
        exact htd
      have q4 : We.frozen? ⟨W1.heap.size, 45, none⟩ = false := by
        rw [hWe, World.frozen?_alloc_past _ _ _ (by rw [World.size_drew, szd]; omega), World.frozen?_drew, hWd, World.frozen?_setCell]
        rw [hWc, World.frozen?_setCells, World.frozen?_alloc_past _ _ _ (by rw [World.size_alloc]; exact Nat.lt_succ_of_lt hbig), World.frozen?_alloc_past _ _ _ hbig]
        exact hb.froT _
      have hWd2 : Wc.setCell ⟨W1.heap.size, 256, none⟩ (.slice (some ⟨w.heap.size, 0, none⟩) 1 4) = Wd := hWd.symm
      have HN : Aside (BInv w A w.heap.size W1.heap.size 3 (We.setCell ⟨W1.heap.size, 45, none⟩ (.slice (some ⟨Wd.heap.size, 0, none⟩) 0 cap))) := hnx
      clear hnx hb hWc hWd hWe hcap hzs hi9 hW1 h4 szc szd hA
      go_wp2_with (at_builtin; refine Lib.wpList_append_run _ rfl _ _ _ _ rfl _ _ rfl rfl _ _ (hap _) ?_)
      go_roundg 3
      case measure => omega
      case rel => exact ⟨rfl, HN.out⟩
    · replace hp : u12 = .int .i64 4 := hp
      subst hp
      have ci := hb.cA4
      have cj := hb.cA5
      have h256 : wr.cell? ⟨W1.heap.size, 256, none⟩ = some (.slice (some ⟨w.heap.size, 0, none⟩) 1 4) := hb.t256
      have htd := hb.todo 53 (by omega) (by decide)
      have hbig := hb.big
      have e0 : ∀ h, ((⟨#[53]⟩ : ByteArray)[0]'h).toNat = 53 := fun _ => rfl
      have hn := Lib.run_eql_slice_nil (P := Try.prog) wr 59 5 none 0 0 0 0 Try.underlying59
      have hcv : (convert 59 9 (.slice (some ⟨wr.heap.size, 0, none⟩) 1 1)).run Try.prog (wr.alloc (.cells #[.int .u8 53] 5)) = .ok (.string ⟨#[53]⟩) (wr.alloc (.cells #[.int .u8 53] 5)) := conv1 wr 59 9 5 53 Try.underlying59 (by kernel_rfl) (by kernel_rfl)
      obtain ⟨Wc, hWc⟩ : ∃ Wc, Wc = ((wr.alloc (.cells #[.int .u8 53] 5)).alloc (.cells #[.string ⟨#[53]⟩] 9)).setCells w.heap.size (0 + (4 - (2 + 1))) [.string ⟨#[53]⟩] := ⟨_, rfl⟩
      have hap : ∀ ty, (Builtin.append_ #[23, 23] ty #[.slice (some ⟨w.heap.size, 0, none⟩) 1 4, .slice (some ⟨wr.heap.size + 1, 0, none⟩) 1 1]).run Try.prog ((wr.alloc (.cells #[.int .u8 53] 5)).alloc (.cells #[.string ⟨#[53]⟩] 9)) = .ok (.slice (some ⟨w.heap.size, 0, none⟩) 2 4) Wc := fun ty => by
        rw [hWc]
        exact app1 (k := 2) hb rfl hW1 23 9 i9 Try.underlying23 hi9 hzs (.cells #[.int .u8 53] 5) ⟨#[53]⟩ ty
      obtain ⟨Wd, hWd⟩ : ∃ Wd, Wd = Wc.setCell ⟨W1.heap.size, 256, none⟩ (.slice (some ⟨w.heap.size, 0, none⟩) (4 - 2) 4) := ⟨_, rfl⟩
      have hbs := run_bytes_of_string (P := Try.prog) Wd 9 59 5 ⟨#[115]⟩ (by kernel_rfl) Try.underlying59 (by kernel_rfl)
      obtain ⟨cap, hcap⟩ : ∃ cap, cap = grownCap Wd (ByteArray.size ⟨#[115]⟩) 0 5 := ⟨_, rfl⟩
      rw [← hcap] at hbs
      obtain ⟨We, hWe⟩ : ∃ We, We = Wd.drew.alloc (.cells (bytesRow ⟨#[115]⟩ cap) 5 ((bytesRow ⟨#[115]⟩ cap).size, (bytesRow ⟨#[115]⟩ cap).size + 1)) := ⟨_, rfl⟩
      rw [← hWe] at hbs
      replace hbs : (convert 9 59 (.string ⟨#[115]⟩)).run Try.prog Wd = .ok (.slice (some ⟨Wd.heap.size, 0, none⟩) 1 cap) We := hbs
      have hnx := BInv.next (k := 2) (cap := cap) hb hA rfl hW1 hWc hWd hWe (row_bytes [115] cap)
      have szc : Wc.heap.size = wr.heap.size + 2 := by rw [hWc, size_put, World.size_alloc, World.size_alloc]
      have q1 : Wc.cell? ⟨W1.heap.size, 256, none⟩ = some (.slice (some ⟨w.heap.size, 0, none⟩) 1 4) := by
        rw [hWc, World.cell?_setCells_out _ _ _ _ _ (fun e => by have e : W1.heap.size = w.heap.size := e; omega), World.cell?_alloc_past _ _ _ (by rw [World.size_alloc]; exact Nat.lt_succ_of_lt hbig), World.cell?_alloc_past _ _ _ hbig]
        exact h256
      have q2 : Wc.frozen? ⟨W1.heap.size, 256, none⟩ = false := by
        rw [hWc, World.frozen?_setCells, World.frozen?_alloc_past _ _ _ (by rw [World.size_alloc]; exact Nat.lt_succ_of_lt hbig), World.frozen?_alloc_past _ _ _ hbig]
        exact hb.froT _
      have szd : Wd.heap.size = wr.heap.size + 2 := by rw [hWd, World.size_setCell, szc]
      have q3 : We.cell? ⟨W1.heap.size, 53, none⟩ = some (.slice none 0 0) := by
        rw [hWe, World.cell?_alloc_past _ _ _ (by rw [World.size_drew, szd]; omega), World.cell?_drew, hWd, sc_ne (by omega), hWc, World.cell?_setCells_out _ _ _ _ _ (fun e => by have e : W1.heap.size = w.heap.size := e; omega), World.cell?_alloc_past _ _ _ (by rw [World.size_alloc]; exact Nat.lt_succ_of_lt hbig), World.cell?_alloc_past _ _ _ hbig]
        exact htd
      have q4 : We.frozen? ⟨W1.heap.size, 53, none⟩ = false := by
        rw [hWe, World.frozen?_alloc_past _ _ _ (by rw [World.size_drew, szd]; omega), World.frozen?_drew, hWd, World.frozen?_setCell]
        rw [hWc, World.frozen?_setCells, World.frozen?_alloc_past _ _ _ (by rw [World.size_alloc]; exact Nat.lt_succ_of_lt hbig), World.frozen?_alloc_past _ _ _ hbig]
        exact hb.froT _
      have hWd2 : Wc.setCell ⟨W1.heap.size, 256, none⟩ (.slice (some ⟨w.heap.size, 0, none⟩) 2 4) = Wd := hWd.symm
      have HN : Aside (BInv w A w.heap.size W1.heap.size 2 (We.setCell ⟨W1.heap.size, 53, none⟩ (.slice (some ⟨Wd.heap.size, 0, none⟩) 1 cap))) := hnx
      clear hnx hb hWc hWd hWe hcap hzs hi9 hW1 h4 szc szd hA
      go_wp2_with (at_builtin; refine Lib.wpList_append_run _ rfl _ _ _ _ rfl _ _ rfl rfl _ _ (hap _) ?_)
      go_roundg 2
      case measure => omega
      case rel => exact ⟨rfl, HN.out⟩
    · replace hp : u12 = .int .i64 2 := hp
      subst hp
      have ci := hb.cA2
      have cj := hb.cA3
      have h256 : wr.cell? ⟨W1.heap.size, 256, none⟩ = some (.slice (some ⟨w.heap.size, 0, none⟩) 2 4) := hb.t256
      have htd := hb.todo 49 (by omega) (by decide)
      have hbig := hb.big
      have e0 : ∀ h, ((⟨#[49]⟩ : ByteArray)[0]'h).toNat = 49 := fun _ => rfl
      have hn := Lib.run_eql_slice_nil (P := Try.prog) wr 59 5 none 0 0 0 0 Try.underlying59
      have hcv : (convert 59 9 (.slice (some ⟨wr.heap.size, 0, none⟩) 1 1)).run Try.prog (wr.alloc (.cells #[.int .u8 49] 5)) = .ok (.string ⟨#[49]⟩) (wr.alloc (.cells #[.int .u8 49] 5)) := conv1 wr 59 9 5 49 Try.underlying59 (by kernel_rfl) (by kernel_rfl)
      obtain ⟨Wc, hWc⟩ : ∃ Wc, Wc = ((wr.alloc (.cells #[.int .u8 49] 5)).alloc (.cells #[.string ⟨#[49]⟩] 9)).setCells w.heap.size (0 + (4 - (1 + 1))) [.string ⟨#[49]⟩] := ⟨_, rfl⟩
      have hap : ∀ ty, (Builtin.append_ #[23, 23] ty #[.slice (some ⟨w.heap.size, 0, none⟩) 2 4, .slice (some ⟨wr.heap.size + 1, 0, none⟩) 1 1]).run Try.prog ((wr.alloc (.cells #[.int .u8 49] 5)).alloc (.cells #[.string ⟨#[49]⟩] 9)) = .ok (.slice (some ⟨w.heap.size, 0, none⟩) 3 4) Wc := fun ty => by
        rw [hWc]
        exact app1 (k := 1) hb rfl hW1 23 9 i9 Try.underlying23 hi9 hzs (.cells #[.int .u8 49] 5) ⟨#[49]⟩ ty
      obtain ⟨Wd, hWd⟩ : ∃ Wd, Wd = Wc.setCell ⟨W1.heap.size, 256, none⟩ (.slice (some ⟨w.heap.size, 0, none⟩) (4 - 1) 4) := ⟨_, rfl⟩
      have hbs := run_bytes_of_string (P := Try.prog) Wd 9 59 5 ⟨#[108]⟩ (by kernel_rfl) Try.underlying59 (by kernel_rfl)
      obtain ⟨cap, hcap⟩ : ∃ cap, cap = grownCap Wd (ByteArray.size ⟨#[108]⟩) 0 5 := ⟨_, rfl⟩
      rw [← hcap] at hbs
      obtain ⟨We, hWe⟩ : ∃ We, We = Wd.drew.alloc (.cells (bytesRow ⟨#[108]⟩ cap) 5 ((bytesRow ⟨#[108]⟩ cap).size, (bytesRow ⟨#[108]⟩ cap).size + 1)) := ⟨_, rfl⟩
      rw [← hWe] at hbs
      replace hbs : (convert 9 59 (.string ⟨#[108]⟩)).run Try.prog Wd = .ok (.slice (some ⟨Wd.heap.size, 0, none⟩) 1 cap) We := hbs
      have hnx := BInv.next (k := 1) (cap := cap) hb hA rfl hW1 hWc hWd hWe (row_bytes [108] cap)
      have szc : Wc.heap.size = wr.heap.size + 2 := by rw [hWc, size_put, World.size_alloc, World.size_alloc]
      have q1 : Wc.cell? ⟨W1.heap.size, 256, none⟩ = some (.slice (some ⟨w.heap.size, 0, none⟩) 2 4) := by
        rw [hWc, World.cell?_setCells_out _ _ _ _ _ (fun e => by have e : W1.heap.size = w.heap.size := e; omega), World.cell?_alloc_past _ _ _ (by rw [World.size_alloc]; exact Nat.lt_succ_of_lt hbig), World.cell?_alloc_past _ _ _ hbig]
        exact h256
      have q2 : Wc.frozen? ⟨W1.heap.size, 256, none⟩ = false := by
        rw [hWc, World.frozen?_setCells, World.frozen?_alloc_past _ _ _ (by rw [World.size_alloc]; exact Nat.lt_succ_of_lt hbig), World.frozen?_alloc_past _ _ _ hbig]
        exact hb.froT _
      have szd : Wd.heap.size = wr.heap.size + 2 := by rw [hWd, World.size_setCell, szc]
      have q3 : We.cell? ⟨W1.heap.size, 49, none⟩ = some (.slice none 0 0) := by
        rw [hWe, World.cell?_alloc_past _ _ _ (by rw [World.size_drew, szd]; omega), World.cell?_drew, hWd, sc_ne (by omega), hWc, World.cell?_setCells_out _ _ _ _ _ (fun e => by have e : W1.heap.size = w.heap.size := e; omega), World.cell?_alloc_past _ _ _ (by rw [World.size_alloc]; exact Nat.lt_succ_of_lt hbig), World.cell?_alloc_past _ _ _ hbig]
        exact htd
      have q4 : We.frozen? ⟨W1.heap.size, 49, none⟩ = false := by
        rw [hWe, World.frozen?_alloc_past _ _ _ (by rw [World.size_drew, szd]; omega), World.frozen?_drew, hWd, World.frozen?_setCell]
        rw [hWc, World.frozen?_setCells, World.frozen?_alloc_past _ _ _ (by rw [World.size_alloc]; exact Nat.lt_succ_of_lt hbig), World.frozen?_alloc_past _ _ _ hbig]
        exact hb.froT _
      have hWd2 : Wc.setCell ⟨W1.heap.size, 256, none⟩ (.slice (some ⟨w.heap.size, 0, none⟩) 3 4) = Wd := hWd.symm
      have HN : Aside (BInv w A w.heap.size W1.heap.size 1 (We.setCell ⟨W1.heap.size, 49, none⟩ (.slice (some ⟨Wd.heap.size, 0, none⟩) 1 cap))) := hnx
      clear hnx hb hWc hWd hWe hcap hzs hi9 hW1 h4 szc szd hA
      go_wp2_with (at_builtin; refine Lib.wpList_append_run _ rfl _ _ _ _ rfl _ _ rfl rfl _ _ (hap _) ?_)
      go_roundg 1
      case measure => omega
      case rel => exact ⟨rfl, HN.out⟩
    · replace hp : u12 = .int .i64 0 := hp
      subst hp
      have ci := hb.cA0
      have cj := hb.cA1
      have h256 : wr.cell? ⟨W1.heap.size, 256, none⟩ = some (.slice (some ⟨w.heap.size, 0, none⟩) 3 4) := hb.t256
      have htd := hb.todo 48 (by omega) (by decide)
      have hbig := hb.big
      have e0 : ∀ h, ((⟨#[48]⟩ : ByteArray)[0]'h).toNat = 48 := fun _ => rfl
      have hn := Lib.run_eql_slice_nil (P := Try.prog) wr 59 5 none 0 0 0 0 Try.underlying59
      have hcv : (convert 59 9 (.slice (some ⟨wr.heap.size, 0, none⟩) 1 1)).run Try.prog (wr.alloc (.cells #[.int .u8 48] 5)) = .ok (.string ⟨#[48]⟩) (wr.alloc (.cells #[.int .u8 48] 5)) := conv1 wr 59 9 5 48 Try.underlying59 (by kernel_rfl) (by kernel_rfl)
      obtain ⟨Wc, hWc⟩ : ∃ Wc, Wc = ((wr.alloc (.cells #[.int .u8 48] 5)).alloc (.cells #[.string ⟨#[48]⟩] 9)).setCells w.heap.size (0 + (4 - (0 + 1))) [.string ⟨#[48]⟩] := ⟨_, rfl⟩
      have hap : ∀ ty, (Builtin.append_ #[23, 23] ty #[.slice (some ⟨w.heap.size, 0, none⟩) 3 4, .slice (some ⟨wr.heap.size + 1, 0, none⟩) 1 1]).run Try.prog ((wr.alloc (.cells #[.int .u8 48] 5)).alloc (.cells #[.string ⟨#[48]⟩] 9)) = .ok (.slice (some ⟨w.heap.size, 0, none⟩) 4 4) Wc := fun ty => by
        rw [hWc]
        exact app1 (k := 0) hb rfl hW1 23 9 i9 Try.underlying23 hi9 hzs (.cells #[.int .u8 48] 5) ⟨#[48]⟩ ty
      obtain ⟨Wd, hWd⟩ : ∃ Wd, Wd = Wc.setCell ⟨W1.heap.size, 256, none⟩ (.slice (some ⟨w.heap.size, 0, none⟩) (4 - 0) 4) := ⟨_, rfl⟩
      have hbs := run_bytes_of_string (P := Try.prog) Wd 9 59 5 ⟨#[111]⟩ (by kernel_rfl) Try.underlying59 (by kernel_rfl)
      obtain ⟨cap, hcap⟩ : ∃ cap, cap = grownCap Wd (ByteArray.size ⟨#[111]⟩) 0 5 := ⟨_, rfl⟩
      rw [← hcap] at hbs
      obtain ⟨We, hWe⟩ : ∃ We, We = Wd.drew.alloc (.cells (bytesRow ⟨#[111]⟩ cap) 5 ((bytesRow ⟨#[111]⟩ cap).size, (bytesRow ⟨#[111]⟩ cap).size + 1)) := ⟨_, rfl⟩
      rw [← hWe] at hbs
      replace hbs : (convert 9 59 (.string ⟨#[111]⟩)).run Try.prog Wd = .ok (.slice (some ⟨Wd.heap.size, 0, none⟩) 1 cap) We := hbs
      have hnx := BInv.next (k := 0) (cap := cap) hb hA rfl hW1 hWc hWd hWe (row_bytes [111] cap)
      have szc : Wc.heap.size = wr.heap.size + 2 := by rw [hWc, size_put, World.size_alloc, World.size_alloc]
      have q1 : Wc.cell? ⟨W1.heap.size, 256, none⟩ = some (.slice (some ⟨w.heap.size, 0, none⟩) 3 4) := by
        rw [hWc, World.cell?_setCells_out _ _ _ _ _ (fun e => by have e : W1.heap.size = w.heap.size := e; omega), World.cell?_alloc_past _ _ _ (by rw [World.size_alloc]; exact Nat.lt_succ_of_lt hbig), World.cell?_alloc_past _ _ _ hbig]
        exact h256
      have q2 : Wc.frozen? ⟨W1.heap.size, 256, none⟩ = false := by
        rw [hWc, World.frozen?_setCells, World.frozen?_alloc_past _ _ _ (by rw [World.size_alloc]; exact Nat.lt_succ_of_lt hbig), World.frozen?_alloc_past _ _ _ hbig]
        exact hb.froT _
      have szd : Wd.heap.size = wr.heap.size + 2 := by rw [hWd, World.size_setCell, szc]
      have q3 : We.cell? ⟨W1.heap.size, 48, none⟩ = some (.slice none 0 0) := by
        rw [hWe, World.cell?_alloc_past _ _ _ (by rw [World.size_drew, szd]; omega), World.cell?_drew, hWd, sc_ne (by omega), hWc, World.cell?_setCells_out _ _ _ _ _ (fun e => by have e : W1.heap.size = w.heap.size := e; omega), World.cell?_alloc_past _ _ _ (by rw [World.size_alloc]; exact Nat.lt_succ_of_lt hbig), World.cell?_alloc_past _ _ _ hbig]
        exact htd
      have q4 : We.frozen? ⟨W1.heap.size, 48, none⟩ = false := by
        rw [hWe, World.frozen?_alloc_past _ _ _ (by rw [World.size_drew, szd]; omega), World.frozen?_drew, hWd, World.frozen?_setCell]
        rw [hWc, World.frozen?_setCells, World.frozen?_alloc_past _ _ _ (by rw [World.size_alloc]; exact Nat.lt_succ_of_lt hbig), World.frozen?_alloc_past _ _ _ hbig]
        exact hb.froT _
      have hWd2 : Wc.setCell ⟨W1.heap.size, 256, none⟩ (.slice (some ⟨w.heap.size, 0, none⟩) 4 4) = Wd := hWd.symm
      have HN : Aside (BInv w A w.heap.size W1.heap.size 0 (We.setCell ⟨W1.heap.size, 48, none⟩ (.slice (some ⟨Wd.heap.size, 0, none⟩) 1 cap))) := hnx
      clear hnx hb hWc hWd hWe hcap hzs hi9 hW1 h4 szc szd hA
      go_wp2_with (at_builtin; refine Lib.wpList_append_run _ rfl _ _ _ _ rfl _ _ rfl rfl _ _ (hap _) ?_)
      go_roundg 0
      case measure => omega
      case rel => exact ⟨rfl, HN.out⟩
    · replace hp : u12 = .int .i64 (-2) := hp
      subst hp
      have HB : Aside (BInv w A w.heap.size W1.heap.size 0 wr) := hb
      clear hb h4 hA hi9 hzs
      have HW : Aside (W1.heap.size = w.heap.size + 1) := hW1
      clear hW1
      go_wp2
      go_ret
      rw [← HW.out]
      exact ⟨rfl, HB.out⟩

set_option maxHeartbeats 4000000 in
set_option maxRecDepth 1000000 in
theorem once64 (R A G : Nat) (w : World) (hA : A < w.heap.size) (hRA : R ≠ A) (hG : 8 ≤ G) (hr3 : w.cell? ⟨R, 3, none⟩ = some .nilIface) (hr : w.cell? ⟨R, 4, none⟩ = some (.slice (some ⟨A, 0, none⟩) 8 G))
    (f3 : w.frozen? ⟨R, 3, none⟩ = false) (f4 : w.frozen? ⟨R, 4, none⟩ = false)
    (c0 : w.cell? ⟨A, 0, none⟩ = some (.string ⟨#[48]⟩)) (c1 : w.cell? ⟨A, 1, none⟩ = some (.string ⟨#[111]⟩)) (c2 : w.cell? ⟨A, 2, none⟩ = some (.string ⟨#[49]⟩)) (c3 : w.cell? ⟨A, 3, none⟩ = some (.string ⟨#[108]⟩))
    (c4 : w.cell? ⟨A, 4, none⟩ = some (.string ⟨#[53]⟩)) (c5 : w.cell? ⟨A, 5, none⟩ = some (.string ⟨#[115]⟩)) (c6 : w.cell? ⟨A, 6, none⟩ = some (.string ⟨#[45]⟩)) (c7 : w.cell? ⟨A, 7, none⟩ = some (.string ⟨#[]⟩)) :
    Calls Try.prog 64 #[.pointer (some ⟨R, 0, none⟩)] w fun e w' => ∃ wx, BInv w A w.heap.size (w.heap.size + 1) 0 wx ∧ e = .returned (.tuple #[]) ∧ w' = (wx.setCell ⟨R, 3, none⟩ (.iface 103 (.pointer (some ⟨w.heap.size + 1, 0, none⟩)))).setCell ⟨R, 4, none⟩ (.slice none 0 0) := by
  have h68 := build68 R A G w hA hG hr c0 c1 c2 c3 c4 c5 c6 c7
  have hR : R < w.heap.size := block_lt_of_cell hr3
  clear c0 c1 c2 c3 c4 c5 c6 c7
  go_enter Try.func64, Try.ntmps64
  go_wp2_with (first | (go_at_call 68; refine h68.mono ?_; rintro e wx ⟨rfl, hx⟩; have x3 : wx.cell? ⟨R, 3, none⟩ = some .nilIface := (hx.below.cell hR).trans hr3; have x4 : wx.cell? ⟨R, 4, none⟩ = some (.slice (some ⟨A, 0, none⟩) 8 G) := (hx.below.cell hR).trans hr; have y3 : wx.frozen? ⟨R, 3, none⟩ = false := (hx.below.frozen hR).trans f3; have y4 : wx.frozen? ⟨R, 4, none⟩ = false := (hx.below.frozen hR).trans f4; have HX := Aside.intro hx; clear hx h68))
  go_end0
  exact ⟨wx, HX.out, rfl, rfl⟩
set_option maxHeartbeats 4000000 in
set_option maxRecDepth 1000000 in
theorem slow67 (R A G : Nat) (w : World) (h : Fresh R A G w) :
    Calls Try.prog 67 #[.pointer (some ⟨R, 0, none⟩), .func (.func 64) #[.pointer (some ⟨R, 0, none⟩)] #[]] w fun e w' => e = .returned (.tuple #[]) ∧ After 103 R A w w' := by
  have hR := h.hR
  have l0 : (locked R w).cell? ⟨R, 0, none⟩ = some (.int .u32 0) := by unfold locked; rw [sc_ne (by omega)]; exact h.r0
  have l3 : (locked R w).cell? ⟨R, 3, none⟩ = some .nilIface := by unfold locked; rw [sc_ne (by omega)]; exact h.r3
  have l4 : (locked R w).cell? ⟨R, 4, none⟩ = some (.slice (some ⟨A, 0, none⟩) 8 G) := by unfold locked; rw [sc_ne (by omega)]; exact h.r4
  have l1 : (locked R w).cell? ⟨R, 1, none⟩ = some (.int .i32 1) := sc_eq h.r1
  have lf : ∀ j, (locked R w).frozen? ⟨R, j, none⟩ = false := fun j => by unfold locked; rw [World.frozen?_setCell]; exact h.fz j
  have lA : ∀ j, (locked R w).cell? ⟨A, j, none⟩ = w.cell? ⟨A, j, none⟩ := fun j => World.cell?_setCell_far _ _ _ _ h.hRA
  have ls : (locked R w).heap.size = w.heap.size := World.size_setCell ..
  have h64 := once64 R A G (locked R w) (by rw [ls]; exact h.hA) h.hRA h.hG l3 l4 (lf 3) (lf 4) ((lA 0).trans h.c0) ((lA 1).trans h.c1) ((lA 2).trans h.c2) ((lA 3).trans h.c3) ((lA 4).trans h.c4) ((lA 5).trans h.c5) ((lA 6).trans h.c6) ((lA 7).trans h.c7)
  have hlock := Go.MuLone.lock_free muLibT ⟨R, 1, none⟩ w h.r1 (h.fz 1)
  have hload := load66 ⟨R, 0, none⟩ 0 (locked R w) l0 (.inl rfl)
  have hnot : ∀ (x : Bool) (w : World), (Op.unary .not (.bool x)).run Try.prog w = .ok (.bool (!x)) w := fun _ _ => rfl
  rw [ls] at h64
  clear lA
  have HH : Aside (Fresh R A G w) := h
  clear h
  go_enter_defers Try.func67, Try.ntmps67
  go_wp2_with (first | (go_at_call 70; refine hlock.mono ?_; rintro e w' ⟨rfl, rfl⟩) | (go_at_call 66; refine hload.mono ?_; rintro e w' ⟨rfl, rfl⟩) | (go_at_call 64; refine h64.mono ?_; rintro e w' ⟨wx, hx, rfl, rfl⟩))
  have hRs : R < w.heap.size := hR
  have k0 : (built 103 R (w.heap.size + 1) wx).cell? ⟨R, 0, none⟩ = some (.int .u32 0) := by
    unfold built
    rw [sc_ne (by omega), sc_ne (by omega)]
    exact (hx.below.cell (by rw [ls]; exact hR)).trans l0
  have k1 : ((built 103 R (w.heap.size + 1) wx).drew.setCell ⟨R, 0, none⟩ (.int .u32 1)).cell? ⟨R, 1, none⟩ = some (.int .i32 1) := by
    unfold built
    rw [sc_ne (by omega), World.cell?_drew, sc_ne (by omega), sc_ne (by omega)]
    exact (hx.below.cell (by rw [ls]; exact hR)).trans l1
  have kf : ∀ j, (built 103 R (w.heap.size + 1) wx).frozen? ⟨R, j, none⟩ = false := fun j => by
    unfold built
    rw [World.frozen?_setCell, World.frozen?_setCell]
    exact (hx.below.frozen (by rw [ls]; exact hR)).trans (lf j)
  refine leaves_cons (f := 72) (args := #[.pointer (some ⟨R, 0, none⟩), .bool true]) (by simp) (by simp [go_sem]) ?_
  refine (store72 ⟨R, 0, none⟩ (.int .u32 0) .returning (built 103 R (w.heap.size + 1) wx) k0 (kf 0)).mono ?_
  rintro e u' w'' ⟨rfl, rfl, rfl⟩
  refine leaves_cons (f := 71) (args := #[.pointer (some ⟨R, 1, none⟩)]) (by simp [settle]) (by simp [go_sem]) ?_
  refine (Go.MuLone.unlock_deferred muLibT ⟨R, 1, none⟩ _ _ k1 (by rw [World.frozen?_setCell, World.frozen?_drew]; exact kf 1)).mono ?_
  rintro e u' w'' ⟨rfl, rfl, rfl⟩
  exact ⟨_, results_none rfl _ _ _, rfl, wx, hx, rfl⟩
set_option maxHeartbeats 4000000 in
set_option maxRecDepth 1000000 in
theorem do63 (R A G : Nat) (w : World) (h : Fresh R A G w) :
    Calls Try.prog 63 #[.pointer (some ⟨R, 0, none⟩), .func (.func 64) #[.pointer (some ⟨R, 0, none⟩)] #[]] w fun e w' => e = .returned (.tuple #[]) ∧ After 103 R A w w' := by
  have hslow := slow67 R A G w h
  have hload := load66 ⟨R, 0, none⟩ 0 w h.r0 (.inl rfl)
  have hnot : ∀ (x : Bool) (w : World), (Op.unary .not (.bool x)).run Try.prog w = .ok (.bool (!x)) w := fun _ _ => rfl
  clear h
  go_enter Try.func63, Try.ntmps63
  go_wp2_with (first | (go_at_call 66; refine hload.mono ?_; rintro e w' ⟨rfl, rfl⟩) | (go_at_call 67; refine hslow.mono ?_; rintro e w' ⟨rfl, hx⟩))
  go_end0
  exact ⟨rfl, hx⟩

set_option maxHeartbeats 4000000 in
set_option maxRecDepth 1000000 in
theorem rep130 (T : Nat) (s : ByteArray) (W : World) (h : Table T W) (hs : s.size ≤ 8) :
    Calls Try.prog 130 #[.pointer (some ⟨T, 0, none⟩), .string s] W fun e w' => e = .returned (.string ⟨(s.data.toList.flatMap outOf).toArray⟩) ∧ Below W.heap.size W w' := by
  obtain ⟨a4, h4⟩ := h.t256
  have H : Aside (Table T W) := h
  clear h
  have hnot : ∀ (x : Bool) (w : World), (Op.unary .not (.bool x)).run Try.prog w = .ok (.bool (!x)) w := fun _ _ => rfl
  go_enter Try.func130, Try.ntmps130
  go_wp2
  go_loopg [5, 6, 10] s.size (fun k p5 p6 p10 wr => ∃ i : Nat, i ≤ s.size ∧ k = s.size - i ∧ wr = W ∧ p10 = .int .i64 (i : Int) ∧ p5 = .int .i64 (sizeAt s i) ∧ p6 = .bool (anyAt s i))
  case atStart => exact ⟨0, Nat.zero_le _, rfl, rfl, rfl, by simp [sizeAt], rfl⟩
  case round =>
    obtain ⟨i, hi, rfl, hw, rfl, rfl, rfl⟩ := hrel
    replace hw := hw.symm
    subst hw
    obtain ⟨hz1, hz2⟩ := sizeAt_le hi
    have hA : Aside (0 ≤ sizeAt s i ∧ sizeAt s i ≤ s.size) := ⟨hz1, hz2⟩
    clear hz1 hz2
    by_cases hlt : i < s.size
    · have hb : ((s[i]).toNat : Int) < 256 := by have := (s[i]).toNat_lt; omega
      cases hrp : rep s[i] with
      | none =>
        have hc := H.out.no _ hrp
        have hn := neq_nil (P := Try.prog) W 59 5 none 0 0 Try.underlying59
        have HR : Aside (rep s[i] = none) := hrp
        clear hrp
        go_wp2
        go_roundg (s.size - (i + 1))
        case measure => omega
        case rel => exact ⟨i + 1, by omega, rfl, rfl, by first | rfl | simp, by rw [sizeAt_none hlt HR.out], by rw [anyAt_step hlt, HR.out]; simp⟩
      | some l =>
        obtain ⟨k, c, hc, hk, hkc⟩ := H.out.yes _ _ hrp
        have hn := neq_nil (P := Try.prog) W 59 5 (some ⟨k, 0, none⟩) l.length c Try.underlying59
        have HR : Aside (rep s[i] = some l) := hrp
        have HK : Aside (k < W.heap.size ∧ ∀ j u, l[j]? = some u → W.cell? ⟨k, j, none⟩ = some (.int .u8 u.toNat)) := ⟨hk, hkc⟩
        clear hrp hk hkc
        go_wp2
        go_roundg (s.size - (i + 1))
        case measure => omega
        case rel => exact ⟨i + 1, by omega, rfl, rfl, by first | rfl | simp, by
          have q1 := hA.out
          have q2 := rep_len HR.out
          rw [sizeAt_some hlt HR.out, show wrap64 (sizeAt s i + wrap64 ((l.length : Int) - 1)) = sizeAt s i + ((l.length : Int) - 1) from by
            rw [IntWalk.wrap64_in ((l.length : Int) - 1) (by omega), IntWalk.wrap64_in _ (by omega)]], by rw [anyAt_step hlt, HR.out]; simp⟩
    · have hie : i = s.size := by omega
      subst hie
      clear hlt hi
      obtain ⟨N, hN⟩ : ∃ N : Nat, N = ((bs s).flatMap outOf).length := ⟨_, rfl⟩
      have hz : sizeAt s s.size = (N : Int) := by
        unfold sizeAt
        rw [hN, List.take_of_length_le (by show s.data.toList.length ≤ _; rw [Array.length_toList]; exact Nat.le_refl _)]
        omega
      have hN8 : N ≤ 8 := by
        have := hA.out.2
        omega
      obtain ⟨i5, hi5, hzz⟩ := Option.map_eq_some_iff.1 (show (Try.prog.info? 5).map (fun i => (i.zero, i.size, i.bytes)) = some (some (.int .u8 0), 1, 1) by kernel_rfl)
      simp only [Prod.mk.injEq] at hzz
      obtain ⟨hz0, hzs, hzb⟩ := hzz
      obtain ⟨W1, hW1⟩ : ∃ W1, W1 = W.alloc (.cells (madeCells (Value.int .u8 0).cells ((N : Int).toNat * i5.size)) 5) := ⟨_, rfl⟩
      have hmk : (Instr.makeSlice 59 (.int .i64 (N : Int)) (.int .i64 (N : Int))).run Try.prog W = .ok (.slice (some ⟨W.heap.size, 0, none⟩) N N) W1 := by
        rw [hW1]
        exact run_makeSlice (P := Try.prog) (w := W) 59 5 i5 _ Try.underlying59 hi5 hz0 .i64 .i64 N N (by omega) (by omega) (by rw [hzs]; omega) (by rw [hzb]; omega) (by omega)
      have BF : Buf W W.heap.size N [] W1 := by
        refine ⟨?_, ?_, ?_, ?_, fun j u h => by cases h⟩
        · rw [hW1]; exact Below.alloc (Below.refl _ _) (Nat.le_refl _) _
        · rw [hW1, World.size_alloc]; omega
        · intro j hj
          have hmc : (madeCells (Value.int .u8 0).cells ((N : Int).toNat * i5.size)).size = N := by rw [hzs, size_madeCells]; omega
          rw [hW1, World.cell?_alloc_new, Array.getElem?_eq_getElem (by omega)]; rfl
        · intro j; rw [hW1, World.frozen?_alloc_new]
      rw [hz]
      have HZ : Aside (N = ((bs s).flatMap outOf).length ∧ N ≤ 8) := ⟨hN, hN8⟩
      clear hN hz hzs hzb hz0 hi5 hW1 hN8
      cases han : anyAt s s.size with
      | false =>
        have HF : Aside ((bs s).flatMap outOf = bs s) := by
          unfold anyAt at han
          rw [List.take_of_length_le (by show s.data.toList.length ≤ _; rw [Array.length_toList]; exact Nat.le_refl _)] at han
          exact flat_same _ (fun b hb => by
            have := List.any_eq_false.1 han b hb
            cases h : rep b with
            | none => rfl
            | some l => rw [h] at this; simp at this)
        clear BF
        go_wp2
        go_ret
        refine ⟨?_, Below.refl _ _⟩
        show Ending.returned (.string s) = _
        rw [HF.out]
      | true =>
        go_wp2
        go_loopg [13, 14] s.size (fun k p13 p14 w2 => ∃ i j : Nat, i ≤ s.size ∧ k = s.size - i ∧ p14 = .int .i64 (i : Int) ∧ p13 = .int .i64 (j : Int) ∧ j = (outs s i).length ∧ Buf W W.heap.size N (outs s i) w2)
        case atStart => exact ⟨0, 0, Nat.zero_le _, rfl, rfl, rfl, rfl, BF⟩
        case round =>
          obtain ⟨i, j, hi, rfl, rfl, rfl, hj, hbuf⟩ := hrel
          have HBf : Aside (j = (outs s i).length ∧ Buf W W.heap.size N (outs s i) wr) := ⟨hj, hbuf⟩
          clear BF
          by_cases hlt : i < s.size
          · have hb : ((s[i]).toNat : Int) < 256 := by have := (s[i]).toNat_lt; omega
            have hmono : (outs s (i + 1)).length ≤ N := by
              rw [HZ.out.1, ← outs_all]
              exact outs_le hlt
            rw [outs_step hlt, List.length_append] at hmono
            rw [← hj] at hmono
            clear hj
            cases hrp : rep s[i] with
            | none =>
              have ho : outOf s[i] = [s[i]] := by unfold outOf; rw [hrp]; rfl
              rw [ho] at hmono
              have hjN : j < N := by simp at hmono; omega
              have hc := (hbuf.below.cell H.out.hT).trans (H.out.no _ hrp)
              have HO : Aside (outOf s[i] = [s[i]]) := ho
              obtain ⟨v0, q1⟩ := Option.isSome_iff_exists.1 (hbuf.room j hjN)
              have q2 := hbuf.fz j
              have hn2 : ∀ w, (binOp .neq 59 (.slice none 0 0) (.slice none 0 0)).run Try.prog w = .ok (.bool (!(none : Option Addr).isNone)) w := fun w => neq_nil w 59 5 none 0 0 Try.underlying59
              clear hbuf hmono hrp ho
              go_wp2
              go_roundg (s.size - (i + 1))
              case measure => omega
              case rel =>
                obtain ⟨hj, hbuf⟩ := HBf.out
                refine ⟨i + 1, j + 1, by omega, rfl, rfl, ?_, ?_, ?_⟩
                · rw [IntWalk.wrap64_in _ (by have := HZ.out.2; omega)]; rfl
                · rw [outs_step hlt, HO.out, List.length_append, ← hj]; rfl
                · rw [outs_step hlt, HO.out]
                  exact hbuf.put hj hjN rfl
            | some l =>
              have ho : outOf s[i] = l := by unfold outOf; rw [hrp]; rfl
              rw [ho] at hmono
              have hl1 := rep_len hrp
              obtain ⟨k, c, hc0, hk, hkc⟩ := H.out.yes _ _ hrp
              have hc := (hbuf.below.cell H.out.hT).trans hc0
              have HO : Aside (outOf s[i] = l ∧ j + l.length ≤ N ∧ l.length ≤ 1) := ⟨ho, hmono, hl1⟩
              have hjN : j ≤ N := by omega
              have hn2 : ∀ w, (binOp .neq 59 (.slice (some ⟨k, 0, none⟩) l.length c) (.slice none 0 0)).run Try.prog w = .ok (.bool (!(some (⟨k, 0, none⟩ : Addr)).isNone)) w := fun w => neq_nil w 59 5 (some ⟨k, 0, none⟩) l.length c Try.underlying59
              have hin : (Try.prog.info? 5).map (·.size) = some 1 := by kernel_rfl
              obtain rfl | ⟨x, rfl⟩ : l = [] ∨ ∃ x, l = [x] := by
                cases l with
                | nil => exact .inl rfl
                | cons x t =>
                  cases t with
                  | nil => exact .inr ⟨x, rfl⟩
                  | cons y t => simp at hl1
              · replace hn2 : ∀ w, (binOp .neq 59 (.slice (some ⟨k, 0, none⟩) 0 c) (.slice none 0 0)).run Try.prog w = .ok (.bool (!(some (⟨k, 0, none⟩ : Addr)).isNone)) w := hn2
                replace hc : wr.cell? ⟨T, (s[i]).toNat, none⟩ = some (.slice (some ⟨k, 0, none⟩) 0 c) := hc
                by_cases hNj : N = j
                · have hcp : (Builtin.copy_ #[59, 59] 3 #[.slice (some ⟨W.heap.size, 0, none⟩) 0 0, .slice (some ⟨k, 0, none⟩) 0 c]).run Try.prog wr.drew = .ok (.int .i64 0) wr.drew :=
                    run_copy_cells (P := Try.prog) wr.drew 59 59 3 5 W.heap.size 0 0 0 ⟨k, 0, none⟩ 0 c [] Try.underlying59 hin (by simp) (fun j v h => by cases h) (fun j h => by cases h) (fun j h => by cases h) (fun v h => by cases h)
                  clear hbuf hmono hrp ho hl1 hkc hk hc0 hin
                  go_wp2
                  go_region
                  all_goals go_wp2
                  go_roundg (s.size - (i + 1))
                  case measure => omega
                  case rel =>
                    obtain ⟨hj, hbuf⟩ := HBf.out
                    refine ⟨i + 1, j, by omega, rfl, rfl, ?_, ?_, ?_⟩
                    · rw [IntWalk.wrap64_in _ (by have := HZ.out.2; omega)]
                    · rw [outs_step hlt, HO.out.1, List.append_nil, ← hj]
                    · rw [outs_step hlt, HO.out.1, List.append_nil]
                      exact hbuf.drew
                · have hcp : (Builtin.copy_ #[59, 59] 3 #[.slice (some ⟨W.heap.size, j, none⟩) (N - j) (N - j), .slice (some ⟨k, 0, none⟩) 0 c]).run Try.prog wr.drew = .ok (.int .i64 0) wr.drew :=
                    run_copy_cells (P := Try.prog) wr.drew 59 59 3 5 W.heap.size j (N - j) (N - j) ⟨k, 0, none⟩ 0 c [] Try.underlying59 hin (by simp) (fun j v h => by cases h) (fun j h => by cases h) (fun j h => by cases h) (fun v h => by cases h)
                  clear hbuf hmono hrp ho hl1 hkc hk hc0 hin
                  go_wp2
                  go_region
                  all_goals go_wp2
                  go_roundg (s.size - (i + 1))
                  case measure => omega
                  case rel =>
                    obtain ⟨hj, hbuf⟩ := HBf.out
                    refine ⟨i + 1, j, by omega, rfl, rfl, ?_, ?_, ?_⟩
                    · rw [IntWalk.wrap64_in _ (by have := HZ.out.2; omega)]
                    · rw [outs_step hlt, HO.out.1, List.append_nil, ← hj]
                    · rw [outs_step hlt, HO.out.1, List.append_nil]
                      exact hbuf.drew
              · replace hn2 : ∀ w, (binOp .neq 59 (.slice (some ⟨k, 0, none⟩) 1 c) (.slice none 0 0)).run Try.prog w = .ok (.bool (!(some (⟨k, 0, none⟩ : Addr)).isNone)) w := hn2
                replace hc : wr.cell? ⟨T, (s[i]).toNat, none⟩ = some (.slice (some ⟨k, 0, none⟩) 1 c) := hc
                have hjN1 : j < N := by simp at hmono; omega
                have hNj : ¬ N = j := by omega
                have hcp : (Builtin.copy_ #[59, 59] 3 #[.slice (some ⟨W.heap.size, j, none⟩) (N - j) (N - j), .slice (some ⟨k, 0, none⟩) 1 c]).run Try.prog wr.drew = .ok (.int .i64 1) (wr.drew.setCell ⟨W.heap.size, j, none⟩ (.int .u8 x.toNat)) :=
                  run_copy_cells (P := Try.prog) wr.drew 59 59 3 5 W.heap.size j (N - j) (N - j) ⟨k, 0, none⟩ 1 c [.int .u8 x.toNat] Try.underlying59 hin (by simp [Nat.min_def]; omega) (fun t v h => by
                    have ht : t = 0 := by have := (List.getElem?_eq_some_iff.1 h).1; simp at this; omega
                    subst ht
                    rw [Addr.add_lit, World.cell?_drew, hbuf.below.cell hk, hkc 0 x rfl]
                    exact h) (fun t h => by
                    have ht : t = 0 := by simp at h; omega
                    subst ht
                    exact hbuf.room j hjN1) (fun t h => hbuf.fz _) (fun v h => by
                    simp only [List.mem_singleton] at h
                    rw [h]; rfl)
                clear hbuf hmono hrp ho hl1 hkc hk hc0 hin
                go_wp2
                go_region
                all_goals go_wp2
                go_roundg (s.size - (i + 1))
                case measure => omega
                case rel =>
                  obtain ⟨hj, hbuf⟩ := HBf.out
                  refine ⟨i + 1, j + 1, by omega, rfl, rfl, ?_, ?_, ?_⟩
                  · rw [IntWalk.wrap64_in _ (by have := HZ.out.2; omega)]; rfl
                  · rw [outs_step hlt, HO.out.1, List.length_append, ← hj]; rfl
                  · rw [outs_step hlt, HO.out.1]
                    exact (hbuf.drew.put hj hjN1 rfl)
          · have hie : i = s.size := by omega
            subst hie
            clear hlt hi
            have hN := HZ.out.1
            rw [← outs_all] at hN
            have hcv0 := run_convert_bytes_back (P := Try.prog) wr 59 9 5 ⟨W.heap.size, 0, none⟩ N (outs s s.size) Try.underlying59 (by kernel_rfl) (by kernel_rfl) (fun t ht => by
              rw [Addr.add_lit, Nat.zero_add]
              exact hbuf.at_ t _ (List.getElem?_eq_getElem ht))
            rw [← hN] at hcv0
            have HF : Aside (outs s s.size = (bs s).flatMap outOf) := outs_all s
            have HB : Aside (Below W.heap.size W wr) := hbuf.below
            clear hbuf hN hj
            obtain ⟨ob, hob⟩ : ∃ ob : ByteArray, ob = ⟨(outs s s.size).toArray⟩ := ⟨_, rfl⟩
            rw [← hob] at hcv0
            have HOB : Aside (ob = ⟨(outs s s.size).toArray⟩) := hob
            clear hob
            go_wp2
            go_ret
            refine ⟨?_, HB.out⟩
            rw [HOB.out, HF.out]
            rfl

set_option maxHeartbeats 4000000 in
set_option maxRecDepth 1000000 in
theorem rep58 (R A G : Nat) (s : ByteArray) (w : World) (hs : s.size ≤ 8) (h : Fresh R A G w) :
    Calls Try.prog 58 #[.pointer (some ⟨R, 0, none⟩), .string s] w fun e w' => ∃ w1, After 103 R A w w1 ∧ e = .returned (.string ⟨(s.data.toList.flatMap outOf).toArray⟩) ∧ Below w1.heap.size w1 w' := by
  have hdo := do63 R A G w h
  have hmf : ∀ (fn : Fn) (first cap : Array Value) (w : World), (Instr.makeFunc fn first cap).run Try.prog w = .ok (.func fn first cap) w := fun _ _ _ _ => rfl
  have hrep : ∀ w1, After 103 R A w w1 → Calls Try.prog 130 #[.pointer (some ⟨w.heap.size + 1, 0, none⟩), .string s] w1 fun e w' => e = .returned (.string ⟨(s.data.toList.flatMap outOf).toArray⟩) ∧ Below w1.heap.size w1 w' := fun w1 h1 => rep130 _ s w1 (h1.table h.hR) hs
  have HF : Aside (Fresh R A G w) := h
  clear h
  go_enter Try.func58, Try.ntmps58
  go_wp2_with (first | (go_at_call 63; refine hdo.mono ?_; rintro e w1 ⟨rfl, hx⟩; have h3 := hx.iface HF.out; have HX : Aside (After 103 R A w w1) := hx; clear hx) | (go_at_call 130; refine (hrep _ HX.out).mono ?_; rintro e w2 ⟨rfl, hb⟩))
  go_ret
  exact ⟨w1, HX.out, rfl, hb⟩
set_option maxHeartbeats 4000000 in
set_option maxRecDepth 1000000 in
theorem plain49 (s : ByteArray) (w : World) (hs : s.size ≤ 8) :
    Calls Try.prog 49 #[.string s] w fun e w' => e = .returned (.string ⟨(s.data.toList.flatMap outOf).toArray⟩) ∧ Below w.heap.size w w' := by
  obtain ⟨w1, hw1⟩ : ∃ w1, w1 = w.alloc (.cells strs8.toArray 9) := ⟨_, rfl⟩
  have hs1 : w1.heap.size = w.heap.size + 1 := by rw [hw1, World.size_alloc]
  have h57 := new57 w.heap.size w1 strs8 rfl (by decide) (fun j v hj => by
    have hj8 := (List.getElem?_eq_some_iff.1 hj).1
    have := World.cell?_alloc_at (w := w) strs8.toArray 9 w.heap.size j rfl
    rw [hw1, this, ← hj]
    simp)
  have h58 : ∀ G w2, Fresh (w1.heap.size + 1) w1.heap.size G w2 → Calls Try.prog 58 #[.pointer (some ⟨w1.heap.size + 1, 0, none⟩), .string s] w2 fun e w' => ∃ w3, After 103 (w1.heap.size + 1) w1.heap.size w2 w3 ∧ e = .returned (.string ⟨(s.data.toList.flatMap outOf).toArray⟩) ∧ Below w3.heap.size w3 w' := fun G w2 h => rep58 _ _ G s w2 hs h
  have hB1 : Below w.heap.size w w1 := by rw [hw1]; exact Below.alloc (Below.refl _ _) (Nat.le_refl _) _
  have hw2 : w.alloc (.cells #[.string ⟨#[48]⟩, .string ⟨#[111]⟩, .string ⟨#[49]⟩, .string ⟨#[108]⟩, .string ⟨#[53]⟩, .string ⟨#[115]⟩, .string ⟨#[45]⟩, .string ⟨#[]⟩] 9) = w1 := hw1.symm
  clear hw1
  have h57b : Calls Try.prog 57 #[.slice (some ⟨w.heap.size, 0, none⟩) 8 8] w1 fun e w2 => ∃ G, e = .returned (.pointer (some ⟨w1.heap.size + 1, 0, none⟩)) ∧ Fresh (w1.heap.size + 1) w1.heap.size G w2 ∧ Below w.heap.size w w2 := by
    refine h57.mono ?_
    rintro e w2 ⟨G, h1, h2, h3, h4⟩
    refine ⟨G, h1, ?_, ?_⟩
    · subst h4
      exact fresh_of w1 G 9 83 h3 (Builtin.zeroCells (Value.string ⟨#[]⟩).cells (G - 8))
    · subst h4
      exact Below.alloc (Below.alloc (Below.drew hB1) (by rw [World.size_drew]; omega) _) (by rw [World.size_alloc, World.size_drew]; omega) _
  clear h57
  have HS : Aside (w1.heap.size = w.heap.size + 1) := hs1
  clear hs1
  go_enter Try.func49, Try.ntmps49
  go_wp2_with (first | (go_at_call 57; refine h57b.mono ?_; rintro e w2 ⟨G, rfl, hfr, hB2⟩) | (go_at_call 58; refine (h58 _ _ hfr).mono ?_; rintro e w4 ⟨w3, ha, rfl, hb⟩))
  go_ret
  have q1 := hfr.hR
  have hs1 := HS.out
  have q2 := ha.size
  exact ⟨rfl, (ha.below hB2 (by omega) q1).trans (hb.mono (by omega))⟩

end Rpl
theorem said_impl_PlainOf (a0 : ByteArray) (g : G.impl_PlainOf a0 = true) : Said Try.prog sigs_49 49 [.val .str a0] [⟨.str, N.impl_PlainOf a0⟩] :=
  Rpl.said_str Try.func49 (by kernel_rfl) (by kernel_rfl) (fun w ok vs h => by
    obtain ⟨v0, vs0, rfl, h0, rfl⟩ := h
    rw [avr_str h0, show N.impl_PlainOf a0 = _ from (Rpl.plain_is a0).symm]
    exact Rpl.plain49 a0 w (of_decide_eq_true g))

end Go.Proofs.Ytcmjbplnjjdcdaa.Ref
