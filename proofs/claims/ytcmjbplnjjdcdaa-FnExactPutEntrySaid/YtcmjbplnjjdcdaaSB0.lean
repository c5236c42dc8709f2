/- Functions of the program: what each computes, and that it does so.
   Conditions: as each theorem states. -/
import Derived.Test.YtcmjbplnjjdcdaaSA
set_option linter.unusedVariables false
set_option linter.unusedSimpArgs false
set_option maxRecDepth 100000
namespace Go.Proofs.Ytcmjbplnjjdcdaa.Ref
open Go.RowKit Go.Proofs.YtcmjbplnjjdcdaaW.PrintWords Go.Proofs.YtcmjbplnjjdcdaaW.PrintLast
abbrev G.laws_szStringS (a : List ByteArray) (left : Int) : Bool := gL left && bP a
abbrev N.laws_szStringS (a : List ByteArray) (left : Int) : Int := sub1 (wP a) left
def laws_szStringS_L0 {ρ : Type} (k : Int → Option ρ) (L0 : (List ByteArray) → Int → Int → Option ρ) (v0_0 : (List ByteArray)) (v0_1 : Int) (v0_2 : Int) : Option ρ := (cond (decide (v0_2 < (List.length v0_0 : Int))) (cond (inRange v0_2 (List.length v0_0)) (cond (decide ((IntKind.wrap .i64 (v0_1 - (ByteArray.size (List.getD v0_0 (Int.toNat v0_2) ByteArray.empty) : Int))) < (0 : Int))) (k (-1 : Int)) (L0 v0_0 (IntKind.wrap .i64 (v0_1 - (ByteArray.size (List.getD v0_0 (Int.toNat v0_2) ByteArray.empty) : Int))) (IntKind.wrap .i64 (v0_2 + (1 : Int))))) none) (k v0_1))
def laws_szStringS {ρ : Type} (k : Int → Option ρ) (L0 : (List ByteArray) → Int → Int → Option ρ) (a0 : (List ByteArray)) (a1 : Int) : Option ρ := (cond (decide ((IntKind.wrap .i64 (a1 - (List.length a0 : Int))) < (0 : Int))) (k (-1 : Int)) (L0 a0 (IntKind.wrap .i64 (a1 - (List.length a0 : Int))) (0 : Int)))
theorem laws_szStringS_ok {ρ : Type} (k : Int → Option ρ) (a0 : (List ByteArray)) (a1 : Int) (l_a0 : lnL (fun _ => True) a0) (g : G.laws_szStringS a0 a1 = true) : ∃ n0, ∀ n, n0 ≤ n → ∀ (L0 : Nat → (List ByteArray) → Int → Int → Option ρ) (h0 : ∀ ( m : Nat) (v0_0 : (List ByteArray)) (v0_1 : Int) (v0_2 : Int), L0 (m + 1) v0_0 v0_1 v0_2 = laws_szStringS_L0 k (L0 m) v0_0 v0_1 v0_2), laws_szStringS k (L0 n) a0 a1 = k (N.laws_szStringS a0 a1) := by
  unfold G.laws_szStringS at g
  replace g := (Bool.and_eq_true _ _).mp g
  refine ⟨a0.length + 1, fun n hn L0 h0 => ?_⟩
  refine sz_first (c := fun l => L0 n a0 l 0) g.1 l_a0.1 (fun g' => ?_)
  have g'' : 0 ≤ sub1 a0.length a1 ∧ sub1 a0.length a1 ≤ 1048576 := by simpa only [gL, Bool.and_eq_true, decide_eq_true_eq] using g'
  refine (loop_l (a := a0) (d := ByteArray.empty) l_a0.1 (L := fun m i s => L0 m a0 s i) (f := fun i x s c => cond (decide (IntKind.wrap .i64 (s - (x.size : Int)) < 0)) (k (-1)) (c (IntKind.wrap .i64 (s - (x.size : Int))))) (e := k) (fun m i s => h0 m a0 s i) hn).trans ?_
  refine foldI_sz (fun x => x.size ≤ 9223372036854775807) (fun i x s c hx hs0 hs1 => ?_) (fun s => rfl) a0 0 _ (fun x hx => by simpa using List.all_eq_true.1 g.2 x hx) g''.1 g''.2
  rw [wrap_sub hs0 hs1 (by omega) (by omega)]
  congr 1
  simp only [decide_eq_decide]
  omega
def O_laws_szStringS : Orac := nilO
theorem ok_laws_szStringS : OracOk Try.prog sigs O_laws_szStringS := nilO_ok
def A_laws_szStringS : Ann := fun b => cond (Nat.beq b 0) ⟨[(0, false), (1, false), (5, false)], []⟩ (⟨[], []⟩)
def S_laws_szStringS_0 (v0_0 : (List ByteArray)) (v0_1 : Int) (v0_2 : Int) : St := [(kT 0, some (.tv (.v (.slice 9 .str) v0_0 .no))), (kT 1, some (.tv (.v (.int .i64) v0_1 .no))), (kT 5, some (.tv (.v (.int .i64) v0_2 .no)))]
noncomputable def L_laws_szStringS_0 (n m : Nat) : St → Option Ret := loopOf tab sigs O_laws_szStringS A_laws_szStringS Try.f21 [((.int .i64), .no)] n (fun _ => 0) 0 m
theorem b_laws_szStringS_0 (n m : Nat) (v0_0 : (List ByteArray)) (v0_1 : Int) (v0_2 : Int) : L_laws_szStringS_0 n (m + 1) (S_laws_szStringS_0 v0_0 v0_1 v0_2) = laws_szStringS_L0 (fun r0 => some [⟨(.int .i64), r0⟩]) (fun v0_0 v0_1 v0_2 => L_laws_szStringS_0 n m (S_laws_szStringS_0 v0_0 v0_1 v0_2)) v0_0 v0_1 v0_2 := by kernel_rfl
theorem a_laws_szStringS (n : Nat) (a0 : (List ByteArray)) (a1 : Int) : absF tab sigs O_laws_szStringS A_laws_szStringS Try.f21 [((.int .i64), .no)] n [.val (.slice 9 .str) a0, .val (.int .i64) a1] = laws_szStringS (fun r0 => some [⟨(.int .i64), r0⟩]) (fun v0_0 v0_1 v0_2 => L_laws_szStringS_0 n n (S_laws_szStringS_0 v0_0 v0_1 v0_2)) a0 a1 := by kernel_rfl
theorem said_laws_szStringS (a0 : (List ByteArray)) (a1 : Int) (g : G.laws_szStringS a0 a1 = true) : Said Try.prog sigs_21 21 [.val (.slice 9 .str) a0, .val (.int .i64) a1] [⟨(.int .i64), N.laws_szStringS a0 a1⟩] := said_len (T := tab) (A := A_laws_szStringS) tabOk ok_laws_szStringS tabOk.follows Try.func21 (by kernel_rfl) (by kernel_rfl) (fun hl => let ⟨n, hn⟩ := laws_szStringS_ok (ρ := Ret) (fun r0 => some [⟨(.int .i64), r0⟩]) a0 a1 hl.1 g; ⟨n, (a_laws_szStringS n a0 a1).trans (hn n (Nat.le_refl n) (fun  m v0_0 v0_1 v0_2 => L_laws_szStringS_0 n  m (S_laws_szStringS_0 v0_0 v0_1 v0_2)) (fun  m v0_0 v0_1 v0_2 => b_laws_szStringS_0 n  m v0_0 v0_1 v0_2))⟩)
abbrev G.laws_szEntry (a : TEntry) (left : Int) : Bool := gL left && bE a
abbrev N.laws_szEntry (a : TEntry) (left : Int) : Int := sub1 (wE a) left
def laws_szEntry_P {ρ : Type} (f0 : (List ByteArray) → Int → Int) (g0 : (List ByteArray) → Int → Bool) (k : Int → Option ρ) (a0 : TEntry) (a1 : Int) : Option ρ := (cond (decide ((IntKind.wrap .i64 (a1 - (ByteArray.size a0.1 : Int))) < (0 : Int))) (k (-1 : Int)) (cond (g0 a0.2.2.2 (IntKind.wrap .i64 (a1 - (ByteArray.size a0.1 : Int)))) (cond (decide ((f0 a0.2.2.2 (IntKind.wrap .i64 (a1 - (ByteArray.size a0.1 : Int)))) < (0 : Int))) (k (-1 : Int)) (k (f0 a0.2.2.2 (IntKind.wrap .i64 (a1 - (ByteArray.size a0.1 : Int)))))) none))
def laws_szEntry {ρ : Type} (k : Int → Option ρ) (a0 : TEntry) (a1 : Int) : Option ρ := laws_szEntry_P N.laws_szStringS G.laws_szStringS k a0 a1
theorem laws_szEntry_ok {ρ : Type} (k : Int → Option ρ) (a0 : TEntry) (a1 : Int) (l_a0 : (True ∧ (True ∧ (True ∧ lnL (fun _ => True) a0.2.2.2)))) (g : G.laws_szEntry a0 a1 = true) : laws_szEntry k  a0 a1 = k (N.laws_szEntry a0 a1) := by
  unfold G.laws_szEntry at g
  replace g := (Bool.and_eq_true _ _).mp g
  have g2 := (Bool.and_eq_true _ _).mp g.2
  refine sz_first (c := fun l => cond (gL l && bP a0.2.2.2) (cond (decide (sub1 (wP a0.2.2.2) l < 0)) (k (-1)) (k (sub1 (wP a0.2.2.2) l))) none) g.1 (of_decide_eq_true g2.1) (fun g1 => ?_)
  rw [g1, g2.2]
  exact sz_last
def OP_laws_szEntry (f0 : (List ByteArray) → Int → Int) (g0 : (List ByteArray) → Int → Bool) : Orac := (orcX 21 [.val (.slice 9 .str), .val (.int .i64)] (fun d => g0 d.1 d.2.1) (fun d => [⟨(.int .i64), f0 d.1 d.2.1⟩]) nilO)
def O_laws_szEntry : Orac := OP_laws_szEntry N.laws_szStringS G.laws_szStringS
theorem ok_laws_szEntry : OracOk Try.prog sigs O_laws_szEntry := (orcX_ok rfl rfl (fun d g => said_laws_szStringS d.1 d.2.1 g) nilO_ok)
def A_laws_szEntry : Ann := fun b => ⟨[], []⟩
theorem aP_laws_szEntry (f0 : (List ByteArray) → Int → Int) (g0 : (List ByteArray) → Int → Bool) (n : Nat) (a0 : TEntry) (a1 : Int) : absF tab sigs (OP_laws_szEntry f0 g0) A_laws_szEntry Try.f6 [((.int .i64), .no)] n [.val TyEntry a0, .val (.int .i64) a1] = laws_szEntry_P f0 g0 (fun r0 => some [⟨(.int .i64), r0⟩])  a0 a1 := by kernel_rfl
theorem said_laws_szEntry (a0 : TEntry) (a1 : Int) (g : G.laws_szEntry a0 a1 = true) : Said Try.prog sigs_6 6 [.val TyEntry a0, .val (.int .i64) a1] [⟨(.int .i64), N.laws_szEntry a0 a1⟩] := said_len (T := tab) (A := A_laws_szEntry) tabOk ok_laws_szEntry tabOk.follows Try.func6 (by kernel_rfl) (by kernel_rfl) (fun hl => ⟨0, (aP_laws_szEntry N.laws_szStringS G.laws_szStringS 0 a0 a1).trans (laws_szEntry_ok (ρ := Ret) (fun r0 => some [⟨(.int .i64), r0⟩]) a0 a1 hl.1 g)⟩)
abbrev G.laws_szEntryS (a : List TEntry) (left : Int) : Bool := gL left && a.all bE
abbrev N.laws_szEntryS (a : List TEntry) (left : Int) : Int := sub1 (wEs a) left
def laws_szEntryS_P_L0 {ρ : Type} (f0 : TEntry → Int → Int) (g0 : TEntry → Int → Bool) (k : Int → Option ρ) (L0 : (List TEntry) → Int → Int → Option ρ) (v0_0 : (List TEntry)) (v0_1 : Int) (v0_2 : Int) : Option ρ := (cond (decide (v0_2 < (List.length v0_0 : Int))) (cond (inRange v0_2 (List.length v0_0)) (cond (g0 (List.getD v0_0 (Int.toNat v0_2) (ByteArray.empty, ((0 : Int), ((0 : Int), [])))) v0_1) (cond (decide ((f0 (List.getD v0_0 (Int.toNat v0_2) (ByteArray.empty, ((0 : Int), ((0 : Int), [])))) v0_1) < (0 : Int))) (k (-1 : Int)) (L0 v0_0 (f0 (List.getD v0_0 (Int.toNat v0_2) (ByteArray.empty, ((0 : Int), ((0 : Int), [])))) v0_1) (IntKind.wrap .i64 (v0_2 + (1 : Int))))) none) none) (k v0_1))
def laws_szEntryS_P {ρ : Type} (f0 : TEntry → Int → Int) (g0 : TEntry → Int → Bool) (k : Int → Option ρ) (L0 : (List TEntry) → Int → Int → Option ρ) (a0 : (List TEntry)) (a1 : Int) : Option ρ := (cond (decide ((IntKind.wrap .i64 (a1 - (List.length a0 : Int))) < (0 : Int))) (k (-1 : Int)) (L0 a0 (IntKind.wrap .i64 (a1 - (List.length a0 : Int))) (0 : Int)))
def laws_szEntryS_L0 {ρ : Type} (k : Int → Option ρ) (L0 : (List TEntry) → Int → Int → Option ρ) (v0_0 : (List TEntry)) (v0_1 : Int) (v0_2 : Int) : Option ρ := laws_szEntryS_P_L0 N.laws_szEntry G.laws_szEntry k L0 v0_0 v0_1 v0_2
def laws_szEntryS {ρ : Type} (k : Int → Option ρ) (L0 : (List TEntry) → Int → Int → Option ρ) (a0 : (List TEntry)) (a1 : Int) : Option ρ := laws_szEntryS_P N.laws_szEntry G.laws_szEntry k L0 a0 a1
theorem laws_szEntryS_ok {ρ : Type} (k : Int → Option ρ) (a0 : (List TEntry)) (a1 : Int) (l_a0 : lnL (fun y => (True ∧ (True ∧ (True ∧ lnL (fun _ => True) y.2.2.2)))) a0) (g : G.laws_szEntryS a0 a1 = true) : ∃ n0, ∀ n, n0 ≤ n → ∀ (L0 : Nat → (List TEntry) → Int → Int → Option ρ) (h0 : ∀ ( m : Nat) (v0_0 : (List TEntry)) (v0_1 : Int) (v0_2 : Int), L0 (m + 1) v0_0 v0_1 v0_2 = laws_szEntryS_L0 k (L0 m) v0_0 v0_1 v0_2), laws_szEntryS k (L0 n) a0 a1 = k (N.laws_szEntryS a0 a1) := by
  unfold G.laws_szEntryS at g
  replace g := (Bool.and_eq_true _ _).mp g
  refine ⟨a0.length + 1, fun n hn L0 h0 => ?_⟩
  refine sz_first (c := fun l => L0 n a0 l 0) g.1 l_a0.1 (fun g' => ?_)
  have g'' : 0 ≤ sub1 a0.length a1 ∧ sub1 a0.length a1 ≤ 1048576 := by simpa only [gL, Bool.and_eq_true, decide_eq_true_eq] using g'
  refine (loop_l (a := a0) (d := (ByteArray.empty, ((0 : Int), ((0 : Int), [])))) l_a0.1 (L := fun m i s => L0 m a0 s i) (f := fun i x s c => cond (gL s && bE x) (cond (decide (sub1 (wE x) s < 0)) (k (-1)) (c (sub1 (wE x) s))) none) (e := k) (fun m i s => h0 m a0 s i) hn).trans ?_
  refine foldI_sz (fun x => bE x = true) (fun i x s c hx hs0 hs1 => ?_) (fun s => rfl) a0 0 _ (fun x hx => List.all_eq_true.1 g.2 x hx) g''.1 g''.2
  have e1 : gL s = true := by simp [gL, hs0, hs1]
  rw [e1, hx]
  show cond (decide (sub1 (wE x) s < 0)) _ _ = _
  by_cases h : s < (wE x : Int)
  · have h2 := (sub1_neg (w := wE x) hs0).2 h
    simp [h, h2]
  · have h2 : ¬ sub1 (wE x) s < 0 := fun h3 => h ((sub1_neg hs0).1 h3)
    rw [decide_eq_false h2, decide_eq_false h, sub1_pos (w := wE x) (left := s) (by omega)]
def OP_laws_szEntryS (f0 : TEntry → Int → Int) (g0 : TEntry → Int → Bool) : Orac := (orcX 6 [.val TyEntry, .val (.int .i64)] (fun d => g0 d.1 d.2.1) (fun d => [⟨(.int .i64), f0 d.1 d.2.1⟩]) nilO)
def O_laws_szEntryS : Orac := OP_laws_szEntryS N.laws_szEntry G.laws_szEntry
theorem ok_laws_szEntryS : OracOk Try.prog sigs O_laws_szEntryS := (orcX_ok rfl rfl (fun d g => said_laws_szEntry d.1 d.2.1 g) nilO_ok)
def A_laws_szEntryS : Ann := fun b => cond (Nat.beq b 0) ⟨[(0, false), (1, false), (5, false)], []⟩ (⟨[], []⟩)
def S_laws_szEntryS_0 (v0_0 : (List TEntry)) (v0_1 : Int) (v0_2 : Int) : St := [(kT 0, some (.tv (.v (.slice 25 TyEntry) v0_0 .no))), (kT 1, some (.tv (.v (.int .i64) v0_1 .no))), (kT 5, some (.tv (.v (.int .i64) v0_2 .no)))]
noncomputable def L_P_laws_szEntryS_0 (f0 : TEntry → Int → Int) (g0 : TEntry → Int → Bool) (n m : Nat) : St → Option Ret := loopOf tab sigs (OP_laws_szEntryS f0 g0) A_laws_szEntryS Try.f5 [((.int .i64), .no)] n (fun _ => 0) 0 m
theorem bP_laws_szEntryS_0 (f0 : TEntry → Int → Int) (g0 : TEntry → Int → Bool) (n m : Nat) (v0_0 : (List TEntry)) (v0_1 : Int) (v0_2 : Int) : L_P_laws_szEntryS_0 f0 g0 n (m + 1) (S_laws_szEntryS_0 v0_0 v0_1 v0_2) = laws_szEntryS_P_L0 f0 g0 (fun r0 => some [⟨(.int .i64), r0⟩]) (fun v0_0 v0_1 v0_2 => L_P_laws_szEntryS_0 f0 g0 n m (S_laws_szEntryS_0 v0_0 v0_1 v0_2)) v0_0 v0_1 v0_2 := by kernel_rfl
theorem aP_laws_szEntryS (f0 : TEntry → Int → Int) (g0 : TEntry → Int → Bool) (n : Nat) (a0 : (List TEntry)) (a1 : Int) : absF tab sigs (OP_laws_szEntryS f0 g0) A_laws_szEntryS Try.f5 [((.int .i64), .no)] n [.val (.slice 25 TyEntry) a0, .val (.int .i64) a1] = laws_szEntryS_P f0 g0 (fun r0 => some [⟨(.int .i64), r0⟩]) (fun v0_0 v0_1 v0_2 => L_P_laws_szEntryS_0 f0 g0 n n (S_laws_szEntryS_0 v0_0 v0_1 v0_2)) a0 a1 := by kernel_rfl
theorem said_laws_szEntryS (a0 : (List TEntry)) (a1 : Int) (g : G.laws_szEntryS a0 a1 = true) : Said Try.prog sigs_5 5 [.val (.slice 25 TyEntry) a0, .val (.int .i64) a1] [⟨(.int .i64), N.laws_szEntryS a0 a1⟩] := said_len (T := tab) (A := A_laws_szEntryS) tabOk ok_laws_szEntryS tabOk.follows Try.func5 (by kernel_rfl) (by kernel_rfl) (fun hl => let ⟨n, hn⟩ := laws_szEntryS_ok (ρ := Ret) (fun r0 => some [⟨(.int .i64), r0⟩]) a0 a1 hl.1 g; ⟨n, (aP_laws_szEntryS N.laws_szEntry G.laws_szEntry n a0 a1).trans (hn n (Nat.le_refl n) (fun  m v0_0 v0_1 v0_2 => L_P_laws_szEntryS_0 N.laws_szEntry G.laws_szEntry n  m (S_laws_szEntryS_0 v0_0 v0_1 v0_2)) (fun  m v0_0 v0_1 v0_2 => bP_laws_szEntryS_0 N.laws_szEntry G.laws_szEntry n  m v0_0 v0_1 v0_2))⟩)
abbrev G.laws_toStringS (a : List ByteArray) : Bool := decide (a.length ≤ 1048576)
abbrev N.laws_toStringS (a : List ByteArray) : List ByteArray := a
def laws_toStringS_L0 {ρ : Type} (k : (List ByteArray) → Option ρ) (L0 : (List ByteArray) → Int → (List ByteArray) → Option ρ) (v0_0 : (List ByteArray)) (v0_1 : Int) (v0_2 : (List ByteArray)) : Option ρ := (cond (decide (v0_1 < (List.length v0_0 : Int))) (cond (inRange v0_1 (List.length v0_0)) (cond (inRange v0_1 (List.length v0_2)) (cond (inRange v0_1 (List.length v0_2)) (L0 v0_0 (IntKind.wrap .i64 (v0_1 + (1 : Int))) (List.set v0_2 (Int.toNat v0_1) (List.getD v0_0 (Int.toNat v0_1) ByteArray.empty))) none) none) none) (k v0_2))
def laws_toStringS {ρ : Type} (k : (List ByteArray) → Option ρ) (L0 : (List ByteArray) → Int → (List ByteArray) → Option ρ) (a0 : (List ByteArray)) : Option ρ := (cond (decide (0 ≤ (List.length a0 : Int)) && decide ((List.length a0 : Int) ≤ 549755813888)) (L0 a0 (0 : Int) (List.replicate (Int.toNat (List.length a0 : Int)) ByteArray.empty)) none)
theorem laws_toStringS_ok {ρ : Type} (k : (List ByteArray) → Option ρ) (a0 : (List ByteArray)) (l_a0 : lnL (fun _ => True) a0) (g : G.laws_toStringS a0 = true) : ∃ n0, ∀ n, n0 ≤ n → ∀ (L0 : Nat → (List ByteArray) → Int → (List ByteArray) → Option ρ) (h0 : ∀ ( m : Nat) (v0_0 : (List ByteArray)) (v0_1 : Int) (v0_2 : (List ByteArray)), L0 (m + 1) v0_0 v0_1 v0_2 = laws_toStringS_L0 k (L0 m) v0_0 v0_1 v0_2), laws_toStringS k (L0 n) a0 = k (N.laws_toStringS a0) := by
  unfold G.laws_toStringS at g
  refine ⟨a0.length + 1, fun n hn L0 h0 => ?_⟩
  have g' : a0.length ≤ 1048576 := by simpa using g
  have hg : (decide (0 ≤ (a0.length : Int)) && decide ((a0.length : Int) ≤ 549755813888)) = true := by simp; omega
  show cond _ _ none = _
  rw [hg]
  refine (raw_copy (a := a0) ByteArray.empty ByteArray.empty (fun x => x) (k := k) (L := fun m i out => L0 m a0 i out) (R := fun i out c => laws_toStringS_L0 k (fun _ i out => c i out) a0 i out) (fun m i s => h0 m a0 i s) (fun j out c hj hl => ?_) (fun s c => ?_) hn).trans (by simp)
  · simp [laws_toStringS_L0, lt_nat, inRange_nat, hj, hl, wrap_succ (j := j) (by unfold big; omega)]
  · simp [laws_toStringS_L0]
def O_laws_toStringS : Orac := nilO
theorem ok_laws_toStringS : OracOk Try.prog sigs O_laws_toStringS := nilO_ok
def A_laws_toStringS : Ann := fun b => cond (Nat.beq b 0) ⟨[(0, false), (3, true), (4, false)], []⟩ (⟨[], []⟩)
def S_laws_toStringS_0 (v0_0 : (List ByteArray)) (v0_1 : Int) (v0_2 : (List ByteArray)) : St := [(kT 0, some (.tv (.v (.slice 9 .str) v0_0 .no))), (kT 3, some (.tv (.v (.slice 9 .str) [] (.own 24)))), (kT 4, some (.tv (.v (.int .i64) v0_1 .no))), (kR 24, some (.row 9 .str v0_2))]
noncomputable def L_laws_toStringS_0 (n m : Nat) : St → Option Ret := loopOf tab sigs O_laws_toStringS A_laws_toStringS Try.f26 [((.slice 9 .str), (.own 0))] n (fun _ => 0) 0 m
theorem b_laws_toStringS_0 (n m : Nat) (v0_0 : (List ByteArray)) (v0_1 : Int) (v0_2 : (List ByteArray)) : L_laws_toStringS_0 n (m + 1) (S_laws_toStringS_0 v0_0 v0_1 v0_2) = laws_toStringS_L0 (fun r0 => some [⟨(.slice 9 .str), r0⟩]) (fun v0_0 v0_1 v0_2 => L_laws_toStringS_0 n m (S_laws_toStringS_0 v0_0 v0_1 v0_2)) v0_0 v0_1 v0_2 := by kernel_rfl
theorem a_laws_toStringS (n : Nat) (a0 : (List ByteArray)) : absF tab sigs O_laws_toStringS A_laws_toStringS Try.f26 [((.slice 9 .str), (.own 0))] n [.val (.slice 9 .str) a0] = laws_toStringS (fun r0 => some [⟨(.slice 9 .str), r0⟩]) (fun v0_0 v0_1 v0_2 => L_laws_toStringS_0 n n (S_laws_toStringS_0 v0_0 v0_1 v0_2)) a0 := by kernel_rfl
theorem said_laws_toStringS (a0 : (List ByteArray)) (g : G.laws_toStringS a0 = true) : Said Try.prog sigs_26 26 [.val (.slice 9 .str) a0] [⟨(.slice 9 .str), N.laws_toStringS a0⟩] := said_len (T := tab) (A := A_laws_toStringS) tabOk ok_laws_toStringS tabOk.follows Try.func26 (by kernel_rfl) (by kernel_rfl) (fun hl => let ⟨n, hn⟩ := laws_toStringS_ok (ρ := Ret) (fun r0 => some [⟨(.slice 9 .str), r0⟩]) a0 hl.1 g; ⟨n, (a_laws_toStringS n a0).trans (hn n (Nat.le_refl n) (fun  m v0_0 v0_1 v0_2 => L_laws_toStringS_0 n  m (S_laws_toStringS_0 v0_0 v0_1 v0_2)) (fun  m v0_0 v0_1 v0_2 => b_laws_toStringS_0 n  m v0_0 v0_1 v0_2))⟩)
abbrev G.laws_toEntry (a : TEntry) : Bool := decide (wE a ≤ 1048576)
abbrev N.laws_toEntry (a : TEntry) : TEntry := a
def laws_toEntry {ρ : Type} (k : TEntry → Option ρ) (a0 : TEntry) : Option ρ := (cond (G.laws_toStringS a0.2.2.2) (k (a0.1, (a0.2.1, (a0.2.2.1, (N.laws_toStringS a0.2.2.2))))) none)
theorem laws_toEntry_ok {ρ : Type} (k : TEntry → Option ρ) (a0 : TEntry) (l_a0 : (True ∧ (True ∧ (True ∧ lnL (fun _ => True) a0.2.2.2)))) (g : G.laws_toEntry a0 = true) : laws_toEntry k  a0 = k (N.laws_toEntry a0) := by
  unfold G.laws_toEntry at g
  have g' : wE a0 ≤ 1048576 := by simpa using g
  unfold wE wP at g'
  have g1 : decide (a0.2.2.2.length ≤ 1048576) = true := by simp; omega
  simp only [laws_toEntry, G.laws_toStringS, g1, cond_true]
def OP_laws_toEntry (f0 : (List ByteArray) → (List ByteArray)) (g0 : (List ByteArray) → Bool) : Orac := (orcX 26 [.val (.slice 9 .str)] (fun d => g0 d.1) (fun d => [⟨(.slice 9 .str), f0 d.1⟩]) nilO)
def O_laws_toEntry : Orac := OP_laws_toEntry N.laws_toStringS G.laws_toStringS
def laws_toEntry_P {ρ : Type} (f0 : (List ByteArray) → (List ByteArray)) (g0 : (List ByteArray) → Bool) (k : TEntry → Option ρ) (a0 : TEntry) : Option ρ := (cond (g0 a0.2.2.2) (k (a0.1, (a0.2.1, (a0.2.2.1, (f0 a0.2.2.2))))) none)
theorem ok_laws_toEntry : OracOk Try.prog sigs O_laws_toEntry := (orcX_ok rfl rfl (fun d g => said_laws_toStringS d.1 g) nilO_ok)
def A_laws_toEntry : Ann := fun b => ⟨[], []⟩
theorem aP_laws_toEntry (f0 : (List ByteArray) → (List ByteArray)) (g0 : (List ByteArray) → Bool) (n : Nat) (a0 : TEntry) : absF tab sigs (OP_laws_toEntry f0 g0) A_laws_toEntry Try.f9 [(TyEntry, (.pair .no (.pair .no (.pair .no (.own 0)))))] n [.val TyEntry a0] = laws_toEntry_P f0 g0 (fun r0 => some [⟨TyEntry, r0⟩])  a0 := by kernel_rfl
theorem said_laws_toEntry (a0 : TEntry) (g : G.laws_toEntry a0 = true) : Said Try.prog sigs_9 9 [.val TyEntry a0] [⟨TyEntry, N.laws_toEntry a0⟩] := said_len (T := tab) (A := A_laws_toEntry) tabOk ok_laws_toEntry tabOk.follows Try.func9 (by kernel_rfl) (by kernel_rfl) (fun hl => ⟨0, (aP_laws_toEntry N.laws_toStringS G.laws_toStringS 0 a0).trans (laws_toEntry_ok (ρ := Ret) (fun r0 => some [⟨TyEntry, r0⟩]) a0 hl.1 g)⟩)
abbrev G.laws_toEntryS (a : List TEntry) : Bool := decide (wEs a ≤ 1048576)
abbrev N.laws_toEntryS (a : List TEntry) : List TEntry := a
def laws_toEntryS_P_L0 {ρ : Type} (f0 : TEntry → TEntry) (g0 : TEntry → Bool) (k : (List TEntry) → Option ρ) (L0 : (List TEntry) → Int → (List TEntry) → Option ρ) (v0_0 : (List TEntry)) (v0_1 : Int) (v0_2 : (List TEntry)) : Option ρ := (cond (decide (v0_1 < (List.length v0_0 : Int))) (cond (inRange v0_1 (List.length v0_0)) (cond (g0 (List.getD v0_0 (Int.toNat v0_1) (ByteArray.empty, ((0 : Int), ((0 : Int), []))))) (cond (inRange v0_1 (List.length v0_2)) (cond (inRange v0_1 (List.length v0_2)) (L0 v0_0 (IntKind.wrap .i64 (v0_1 + (1 : Int))) (List.set v0_2 (Int.toNat v0_1) (f0 (List.getD v0_0 (Int.toNat v0_1) (ByteArray.empty, ((0 : Int), ((0 : Int), []))))))) none) none) none) none) (k v0_2))
def laws_toEntryS_P {ρ : Type} (f0 : TEntry → TEntry) (g0 : TEntry → Bool) (k : (List TEntry) → Option ρ) (L0 : (List TEntry) → Int → (List TEntry) → Option ρ) (a0 : (List TEntry)) : Option ρ := (cond (decide (0 ≤ (List.length a0 : Int)) && decide ((List.length a0 : Int) ≤ 549755813888)) (L0 a0 (0 : Int) (List.replicate (Int.toNat (List.length a0 : Int)) (ByteArray.empty, ((0 : Int), ((0 : Int), []))))) none)
def laws_toEntryS_L0 {ρ : Type} (k : (List TEntry) → Option ρ) (L0 : (List TEntry) → Int → (List TEntry) → Option ρ) (v0_0 : (List TEntry)) (v0_1 : Int) (v0_2 : (List TEntry)) : Option ρ := laws_toEntryS_P_L0 N.laws_toEntry G.laws_toEntry k L0 v0_0 v0_1 v0_2
def laws_toEntryS {ρ : Type} (k : (List TEntry) → Option ρ) (L0 : (List TEntry) → Int → (List TEntry) → Option ρ) (a0 : (List TEntry)) : Option ρ := laws_toEntryS_P N.laws_toEntry G.laws_toEntry k L0 a0
theorem laws_toEntryS_ok {ρ : Type} (k : (List TEntry) → Option ρ) (a0 : (List TEntry)) (l_a0 : lnL (fun y => (True ∧ (True ∧ (True ∧ lnL (fun _ => True) y.2.2.2)))) a0) (g : G.laws_toEntryS a0 = true) : ∃ n0, ∀ n, n0 ≤ n → ∀ (L0 : Nat → (List TEntry) → Int → (List TEntry) → Option ρ) (h0 : ∀ ( m : Nat) (v0_0 : (List TEntry)) (v0_1 : Int) (v0_2 : (List TEntry)), L0 (m + 1) v0_0 v0_1 v0_2 = laws_toEntryS_L0 k (L0 m) v0_0 v0_1 v0_2), laws_toEntryS k (L0 n) a0 = k (N.laws_toEntryS a0) := by
  unfold G.laws_toEntryS at g
  refine ⟨a0.length + 1, fun n hn L0 h0 => ?_⟩
  have g' : wEs a0 ≤ 1048576 := by simpa using g
  have hl : a0.length ≤ 1048576 := by unfold wEs at g'; omega
  have hg : (decide (0 ≤ (a0.length : Int)) && decide ((a0.length : Int) ≤ 549755813888)) = true := by simp; omega
  show cond _ _ none = _
  rw [hg]
  refine (raw_copy (a := a0) (ByteArray.empty, (0, (0, []))) (ByteArray.empty, (0, (0, []))) (fun x => x) (k := k) (L := fun m i out => L0 m a0 i out) (R := fun i out c => laws_toEntryS_L0 k (fun _ i out => c i out) a0 i out) (fun m i s => h0 m a0 i s) (fun j out c hj hl => ?_) (fun s c => ?_) hn).trans (by simp)
  · have hw := wEs_mem (getD_mem (d := (ByteArray.empty, (0, (0, [])))) hj)
    have hw' : decide (wE (a0.getD j (ByteArray.empty, (0, (0, [])))) ≤ 1048576) = true := by simp only [decide_eq_true_eq]; omega
    simp only [laws_toEntryS_L0, laws_toEntryS_P_L0, G.laws_toEntry, lt_nat, inRange_nat, hj, hl, decide_true, cond_true, Int.toNat_natCast, hw', wrap_succ (j := j) (by unfold big; omega)]
  · simp [laws_toEntryS_L0, laws_toEntryS_P_L0]
def OP_laws_toEntryS (f0 : TEntry → TEntry) (g0 : TEntry → Bool) : Orac := (orcX 9 [.val TyEntry] (fun d => g0 d.1) (fun d => [⟨TyEntry, f0 d.1⟩]) nilO)
def O_laws_toEntryS : Orac := OP_laws_toEntryS N.laws_toEntry G.laws_toEntry
theorem ok_laws_toEntryS : OracOk Try.prog sigs O_laws_toEntryS := (orcX_ok rfl rfl (fun d g => said_laws_toEntry d.1 g) nilO_ok)
def A_laws_toEntryS : Ann := fun b => cond (Nat.beq b 0) ⟨[(0, false), (3, true), (4, false)], []⟩ (⟨[], []⟩)
def S_laws_toEntryS_0 (v0_0 : (List TEntry)) (v0_1 : Int) (v0_2 : (List TEntry)) : St := [(kT 0, some (.tv (.v (.slice 25 TyEntry) v0_0 .no))), (kT 3, some (.tv (.v (.slice 32 TyEntry) [] (.own 24)))), (kT 4, some (.tv (.v (.int .i64) v0_1 .no))), (kR 24, some (.row 32 TyEntry v0_2))]
noncomputable def L_P_laws_toEntryS_0 (f0 : TEntry → TEntry) (g0 : TEntry → Bool) (n m : Nat) : St → Option Ret := loopOf tab sigs (OP_laws_toEntryS f0 g0) A_laws_toEntryS Try.f8 [((.slice 32 TyEntry), (.own 0))] n (fun _ => 0) 0 m
theorem bP_laws_toEntryS_0 (f0 : TEntry → TEntry) (g0 : TEntry → Bool) (n m : Nat) (v0_0 : (List TEntry)) (v0_1 : Int) (v0_2 : (List TEntry)) : L_P_laws_toEntryS_0 f0 g0 n (m + 1) (S_laws_toEntryS_0 v0_0 v0_1 v0_2) = laws_toEntryS_P_L0 f0 g0 (fun r0 => some [⟨(.slice 32 TyEntry), r0⟩]) (fun v0_0 v0_1 v0_2 => L_P_laws_toEntryS_0 f0 g0 n m (S_laws_toEntryS_0 v0_0 v0_1 v0_2)) v0_0 v0_1 v0_2 := by kernel_rfl
theorem aP_laws_toEntryS (f0 : TEntry → TEntry) (g0 : TEntry → Bool) (n : Nat) (a0 : (List TEntry)) : absF tab sigs (OP_laws_toEntryS f0 g0) A_laws_toEntryS Try.f8 [((.slice 32 TyEntry), (.own 0))] n [.val (.slice 25 TyEntry) a0] = laws_toEntryS_P f0 g0 (fun r0 => some [⟨(.slice 32 TyEntry), r0⟩]) (fun v0_0 v0_1 v0_2 => L_P_laws_toEntryS_0 f0 g0 n n (S_laws_toEntryS_0 v0_0 v0_1 v0_2)) a0 := by kernel_rfl
theorem said_laws_toEntryS (a0 : (List TEntry)) (g : G.laws_toEntryS a0 = true) : Said Try.prog sigs_8 8 [.val (.slice 25 TyEntry) a0] [⟨(.slice 32 TyEntry), N.laws_toEntryS a0⟩] := said_len (T := tab) (A := A_laws_toEntryS) tabOk ok_laws_toEntryS tabOk.follows Try.func8 (by kernel_rfl) (by kernel_rfl) (fun hl => let ⟨n, hn⟩ := laws_toEntryS_ok (ρ := Ret) (fun r0 => some [⟨(.slice 32 TyEntry), r0⟩]) a0 hl.1 g; ⟨n, (aP_laws_toEntryS N.laws_toEntry G.laws_toEntry n a0).trans (hn n (Nat.le_refl n) (fun  m v0_0 v0_1 v0_2 => L_P_laws_toEntryS_0 N.laws_toEntry G.laws_toEntry n  m (S_laws_toEntryS_0 v0_0 v0_1 v0_2)) (fun  m v0_0 v0_1 v0_2 => bP_laws_toEntryS_0 N.laws_toEntry G.laws_toEntry n  m v0_0 v0_1 v0_2))⟩)
abbrev N.spec_CompareLabels (a b : ByteArray) : Int := cmpStr a b
def spec_CompareLabels {ρ : Type} (k : Int → Option ρ) (a0 : ByteArray) (a1 : ByteArray) : Option ρ := (cond (Op.bytesLess (ByteArray.toList a0) (ByteArray.toList a1)) (k (-1 : Int)) (cond (!(Op.bytesLess (ByteArray.toList a0) (ByteArray.toList a1) || ((ByteArray.toList a0) == (ByteArray.toList a1)))) (k (1 : Int)) (k (0 : Int))))
theorem spec_CompareLabels_ok {ρ : Type} (k : Int → Option ρ) (a0 : ByteArray) (a1 : ByteArray) : spec_CompareLabels k  a0 a1 = k (N.spec_CompareLabels a0 a1) := by
  simp only [spec_CompareLabels, cmpStr]
  cases Op.bytesLess a0.toList a1.toList <;> cases a0.toList == a1.toList <;> rfl
def O_spec_CompareLabels : Orac := nilO
theorem ok_spec_CompareLabels : OracOk Try.prog sigs O_spec_CompareLabels := nilO_ok
def A_spec_CompareLabels : Ann := fun b => ⟨[], []⟩
theorem a_spec_CompareLabels (n : Nat) (a0 : ByteArray) (a1 : ByteArray) : absF tab sigs O_spec_CompareLabels A_spec_CompareLabels Try.f22 [((.int .i64), .no)] n [.val .str a0, .val .str a1] = spec_CompareLabels (fun r0 => some [⟨(.int .i64), r0⟩])  a0 a1 := by kernel_rfl
theorem said_spec_CompareLabels (a0 : ByteArray) (a1 : ByteArray) : Said Try.prog sigs_22 22 [.val .str a0, .val .str a1] [⟨(.int .i64), N.spec_CompareLabels a0 a1⟩] := said_len (T := tab) (A := A_spec_CompareLabels) tabOk ok_spec_CompareLabels tabOk.follows Try.func22 (by kernel_rfl) (by kernel_rfl) (fun hl => ⟨0, (a_spec_CompareLabels 0 a0 a1).trans (spec_CompareLabels_ok (ρ := Ret) (fun r0 => some [⟨(.int .i64), r0⟩]) a0 a1)⟩)
abbrev G.spec_l5Copy (a : List ByteArray) : Bool := decide (a.length ≤ 1048576)
abbrev N.spec_l5Copy (a : List ByteArray) : List ByteArray := a
def spec_l5Copy {ρ : Type} (k : (List ByteArray) → Option ρ) (a0 : (List ByteArray)) : Option ρ := (cond (fit (List.length ([] : (List ByteArray))) (List.length a0)) (k (List.append ([] : (List ByteArray)) a0)) none)
theorem spec_l5Copy_ok {ρ : Type} (k : (List ByteArray) → Option ρ) (a0 : (List ByteArray)) (l_a0 : lnL (fun _ => True) a0) (g : G.spec_l5Copy a0 = true) : spec_l5Copy k  a0 = k (N.spec_l5Copy a0) := by
  unfold G.spec_l5Copy at g
  have h1 : fit (List.length ([] : List ByteArray)) (List.length a0) = true := fit_of (by have := of_decide_eq_true g; simp; omega)
  unfold spec_l5Copy
  rw [h1]
  rfl
def O_spec_l5Copy : Orac := nilO
theorem ok_spec_l5Copy : OracOk Try.prog sigs O_spec_l5Copy := nilO_ok
def A_spec_l5Copy : Ann := fun b => ⟨[], []⟩
theorem a_spec_l5Copy (n : Nat) (a0 : (List ByteArray)) : absF tab sigs O_spec_l5Copy A_spec_l5Copy Try.f39 [((.slice 9 .str), (.own 0))] n [.val (.slice 9 .str) a0] = spec_l5Copy (fun r0 => some [⟨(.slice 9 .str), r0⟩])  a0 := by kernel_rfl
theorem said_spec_l5Copy (a0 : (List ByteArray)) (g : G.spec_l5Copy a0 = true) : Said Try.prog sigs_39 39 [.val (.slice 9 .str) a0] [⟨(.slice 9 .str), N.spec_l5Copy a0⟩] := said_len (T := tab) (A := A_spec_l5Copy) tabOk ok_spec_l5Copy tabOk.follows Try.func39 (by kernel_rfl) (by kernel_rfl) (fun hl => ⟨0, (a_spec_l5Copy 0 a0).trans (spec_l5Copy_ok (ρ := Ret) (fun r0 => some [⟨(.slice 9 .str), r0⟩]) a0 hl.1 g)⟩)
abbrev G.spec_l8Copy (e : TEntry) : Bool := decide (e.2.2.2.length ≤ 1048576)
abbrev N.spec_l8Copy (e : TEntry) : TEntry := e
def spec_l8Copy {ρ : Type} (k : TEntry → Option ρ) (a0 : TEntry) : Option ρ := (cond (G.spec_l5Copy a0.2.2.2) (k (a0.1, (a0.2.1, (a0.2.2.1, (N.spec_l5Copy a0.2.2.2))))) none)
theorem spec_l8Copy_ok {ρ : Type} (k : TEntry → Option ρ) (a0 : TEntry) (l_a0 : (True ∧ (True ∧ (True ∧ lnL (fun _ => True) a0.2.2.2)))) (g : G.spec_l8Copy a0 = true) : spec_l8Copy k  a0 = k (N.spec_l8Copy a0) := by
  unfold G.spec_l8Copy at g
  simp only [spec_l8Copy, G.spec_l5Copy, N.spec_l5Copy, g, cond_true]
def OP_spec_l8Copy (f0 : (List ByteArray) → (List ByteArray)) (g0 : (List ByteArray) → Bool) : Orac := (orcX 39 [.val (.slice 9 .str)] (fun d => g0 d.1) (fun d => [⟨(.slice 9 .str), f0 d.1⟩]) nilO)
def O_spec_l8Copy : Orac := OP_spec_l8Copy N.spec_l5Copy G.spec_l5Copy
def spec_l8Copy_P {ρ : Type} (f0 : (List ByteArray) → (List ByteArray)) (g0 : (List ByteArray) → Bool) (k : TEntry → Option ρ) (a0 : TEntry) : Option ρ := (cond (g0 a0.2.2.2) (k (a0.1, (a0.2.1, (a0.2.2.1, (f0 a0.2.2.2))))) none)
theorem ok_spec_l8Copy : OracOk Try.prog sigs O_spec_l8Copy := (orcX_ok rfl rfl (fun d g => said_spec_l5Copy d.1 g) nilO_ok)
def A_spec_l8Copy : Ann := fun b => ⟨[], []⟩
theorem aP_spec_l8Copy (f0 : (List ByteArray) → (List ByteArray)) (g0 : (List ByteArray) → Bool) (n : Nat) (a0 : TEntry) : absF tab sigs (OP_spec_l8Copy f0 g0) A_spec_l8Copy Try.f23 [(TyEntry, (.pair .no (.pair .no (.pair .no (.own 0)))))] n [.val TyEntry a0] = spec_l8Copy_P f0 g0 (fun r0 => some [⟨TyEntry, r0⟩])  a0 := by kernel_rfl
theorem said_spec_l8Copy (a0 : TEntry) (g : G.spec_l8Copy a0 = true) : Said Try.prog sigs_23 23 [.val TyEntry a0] [⟨TyEntry, N.spec_l8Copy a0⟩] := said_len (T := tab) (A := A_spec_l8Copy) tabOk ok_spec_l8Copy tabOk.follows Try.func23 (by kernel_rfl) (by kernel_rfl) (fun hl => ⟨0, (aP_spec_l8Copy N.spec_l5Copy G.spec_l5Copy 0 a0).trans (spec_l8Copy_ok (ρ := Ret) (fun r0 => some [⟨TyEntry, r0⟩]) a0 hl.1 g)⟩)
abbrev N.spec_l1In (n lo hi : Int) : Bool := inR n lo hi
def spec_l1In {ρ : Type} (k : Bool → Option ρ) (a0 : Int) (a1 : Int) (a2 : Int) : Option ρ := (cond (decide (a0 ≥ a1)) (k (decide (a0 ≤ a2))) (k false))
theorem spec_l1In_ok {ρ : Type} (k : Bool → Option ρ) (a0 : Int) (a1 : Int) (a2 : Int) : spec_l1In k  a0 a1 a2 = k (N.spec_l1In a0 a1 a2) := by
  simp only [spec_l1In, inR, ge_iff_le]
  cases decide (a1 ≤ a0) <;> rfl
def O_spec_l1In : Orac := nilO
theorem ok_spec_l1In : OracOk Try.prog sigs O_spec_l1In := nilO_ok
def A_spec_l1In : Ann := fun b => ⟨[], []⟩
theorem a_spec_l1In (n : Nat) (a0 : Int) (a1 : Int) (a2 : Int) : absF tab sigs O_spec_l1In A_spec_l1In Try.f50 [(.bool, .no)] n [.val (.int .i64) a0, .val (.int .i64) a1, .val (.int .i64) a2] = spec_l1In (fun r0 => some [⟨.bool, r0⟩])  a0 a1 a2 := by kernel_rfl
theorem said_spec_l1In (a0 : Int) (a1 : Int) (a2 : Int) : Said Try.prog sigs_50 50 [.val (.int .i64) a0, .val (.int .i64) a1, .val (.int .i64) a2] [⟨.bool, N.spec_l1In a0 a1 a2⟩] := said_len (T := tab) (A := A_spec_l1In) tabOk ok_spec_l1In tabOk.follows Try.func50 (by kernel_rfl) (by kernel_rfl) (fun hl => ⟨0, (a_spec_l1In 0 a0 a1 a2).trans (spec_l1In_ok (ρ := Ret) (fun r0 => some [⟨.bool, r0⟩]) a0 a1 a2)⟩)
abbrev G.spec_IsLabel (s : ByteArray) : Bool := decide (s.size ≤ 1048576)
abbrev N.spec_IsLabel (s : ByteArray) : Bool := isLabel s
def spec_IsLabel_P_L0 {ρ : Type} (f0 : Int → Int → Int → Bool) (k : Bool → Option ρ) (L0 : ByteArray → Int → Option ρ) (v0_0 : ByteArray) (v0_1 : Int) : Option ρ := (cond (decide (v0_1 < (ByteArray.size v0_0 : Int))) (cond (inRange v0_1 (ByteArray.size v0_0)) (cond (decide ((bt v0_0 v0_1) < (97 : Int))) (cond (inRange v0_1 (ByteArray.size v0_0)) (cond (decide ((bt v0_0 v0_1) < (48 : Int))) (cond (inRange v0_1 (ByteArray.size v0_0)) (cond ((bt v0_0 v0_1) != (45 : Int)) (k false) (L0 v0_0 (IntKind.wrap .i64 (v0_1 + (1 : Int))))) none) (cond (inRange v0_1 (ByteArray.size v0_0)) (cond (decide ((bt v0_0 v0_1) > (57 : Int))) (cond (inRange v0_1 (ByteArray.size v0_0)) (cond ((bt v0_0 v0_1) != (45 : Int)) (k false) (L0 v0_0 (IntKind.wrap .i64 (v0_1 + (1 : Int))))) none) (L0 v0_0 (IntKind.wrap .i64 (v0_1 + (1 : Int))))) none)) none) (cond (inRange v0_1 (ByteArray.size v0_0)) (cond (decide ((bt v0_0 v0_1) > (122 : Int))) (cond (inRange v0_1 (ByteArray.size v0_0)) (cond (decide ((bt v0_0 v0_1) < (48 : Int))) (cond (inRange v0_1 (ByteArray.size v0_0)) (cond ((bt v0_0 v0_1) != (45 : Int)) (k false) (L0 v0_0 (IntKind.wrap .i64 (v0_1 + (1 : Int))))) none) (cond (inRange v0_1 (ByteArray.size v0_0)) (cond (decide ((bt v0_0 v0_1) > (57 : Int))) (cond (inRange v0_1 (ByteArray.size v0_0)) (cond ((bt v0_0 v0_1) != (45 : Int)) (k false) (L0 v0_0 (IntKind.wrap .i64 (v0_1 + (1 : Int))))) none) (L0 v0_0 (IntKind.wrap .i64 (v0_1 + (1 : Int))))) none)) none) (L0 v0_0 (IntKind.wrap .i64 (v0_1 + (1 : Int))))) none)) none) (k true))
def spec_IsLabel_P {ρ : Type} (f0 : Int → Int → Int → Bool) (k : Bool → Option ρ) (L0 : ByteArray → Int → Option ρ) (a0 : ByteArray) : Option ρ := (cond (!(f0 (ByteArray.size a0 : Int) (1 : Int) (8 : Int))) (k false) (cond (inRange (0 : Int) (ByteArray.size a0)) (cond ((bt a0 (0 : Int)) == (45 : Int)) (k false) (cond (inRange (IntKind.wrap .i64 ((ByteArray.size a0 : Int) - (1 : Int))) (ByteArray.size a0)) (cond ((bt a0 (IntKind.wrap .i64 ((ByteArray.size a0 : Int) - (1 : Int)))) == (45 : Int)) (k false) (L0 a0 (0 : Int))) none)) none))
def spec_IsLabel_L0 {ρ : Type} (k : Bool → Option ρ) (L0 : ByteArray → Int → Option ρ) (v0_0 : ByteArray) (v0_1 : Int) : Option ρ := spec_IsLabel_P_L0 N.spec_l1In k L0 v0_0 v0_1
def spec_IsLabel {ρ : Type} (k : Bool → Option ρ) (L0 : ByteArray → Int → Option ρ) (a0 : ByteArray) : Option ρ := spec_IsLabel_P N.spec_l1In k L0 a0
theorem spec_IsLabel_ok {ρ : Type} (k : Bool → Option ρ) (a0 : ByteArray) (g : G.spec_IsLabel a0 = true) : ∃ n0, ∀ n, n0 ≤ n → ∀ (L0 : Nat → ByteArray → Int → Option ρ) (h0 : ∀ ( m : Nat) (v0_0 : ByteArray) (v0_1 : Int), L0 (m + 1) v0_0 v0_1 = spec_IsLabel_L0 k (L0 m) v0_0 v0_1), spec_IsLabel k (L0 n) a0 = k (N.spec_IsLabel a0) := by
  unfold G.spec_IsLabel at g
  have hlen : a0.size ≤ 1048576 := of_decide_eq_true g
  refine ⟨a0.size + 1, fun n hn L0 h0 => ?_⟩
  show spec_IsLabel k (L0 n) a0 = k (isLabel a0)
  unfold spec_IsLabel spec_IsLabel_P isLabel
  dsimp only [N.spec_l1In]
  cases hr : inR (a0.size : Int) 1 8 with
  | false => rfl
  | true =>
    have hr2 : 1 ≤ (a0.size : Int) ∧ (a0.size : Int) ≤ 8 := by simpa [inR] using hr
    have e0 : inRange 0 a0.size = true := by unfold inRange; simp; omega
    have e1 : IntKind.wrap .i64 ((a0.size : Int) - 1) = ((a0.size - 1 : Nat) : Int) := by rw [wrap_id (by omega) (by omega)]; omega
    have e2 : inRange ((a0.size - 1 : Nat) : Int) a0.size = true := by rw [inRange_nat]; simp; omega
    have hrun := raw_run0 (σ := Unit) (s := ()) (L := fun m i _ => L0 m a0 i) (R := fun i _ c => spec_IsLabel_L0 k (fun _ i => c i ()) a0 i) (fun m i s => h0 m a0 i) a0.size (fun _ _ => True) (fun j _ => k (charsFrom a0 (a0.size - j) j)) (fun j s c hj _ hc => ?_) (fun s c _ => ?_) hn trivial
    · rw [e1]
      simp only [e0, e2, cond_true, Bool.not_true, cond_false]
      rw [hrun, Nat.sub_zero, label_edges a0 (by omega)]
      cases bt a0 0 == 45 <;> cases bt a0 ((a0.size - 1 : Nat) : Int) == 45 <;> simp
    · obtain ⟨m, hm⟩ : ∃ m, a0.size - j = m + 1 := ⟨a0.size - j - 1, by omega⟩
      have hm2 : a0.size - (j + 1) = m := by omega
      have hc' := hc () trivial
      rw [hm2] at hc'
      rw [hm]
      unfold charsFrom
      simp only [spec_IsLabel_L0, spec_IsLabel_P_L0, lt_nat, inRange_nat, decide_eq_true hj, cond_true, wrap_succ (j := j) (by unfold big; omega), hc']
      generalize bt a0 (j : Int) = b
      exact char_spec k b _
    · rw [Nat.sub_self]
      simp [spec_IsLabel_L0, spec_IsLabel_P_L0, charsFrom]
def OP_spec_IsLabel (f0 : Int → Int → Int → Bool) : Orac := (orcX 50 [.val (.int .i64), .val (.int .i64), .val (.int .i64)] (fun d => true) (fun d => [⟨.bool, f0 d.1 d.2.1 d.2.2.1⟩]) nilO)
def O_spec_IsLabel : Orac := OP_spec_IsLabel N.spec_l1In
theorem ok_spec_IsLabel : OracOk Try.prog sigs O_spec_IsLabel := (orcX_ok rfl rfl (fun d g => said_spec_l1In d.1 d.2.1 d.2.2.1) nilO_ok)
def A_spec_IsLabel : Ann := fun b => cond (Nat.beq b 0) ⟨[(0, false), (3, false)], []⟩ (⟨[], []⟩)
def S_spec_IsLabel_0 (v0_0 : ByteArray) (v0_1 : Int) : St := [(kT 0, some (.tv (.v .str v0_0 .no))), (kT 3, some (.tv (.v (.int .i64) v0_1 .no)))]
noncomputable def L_P_spec_IsLabel_0 (f0 : Int → Int → Int → Bool) (n m : Nat) : St → Option Ret := loopOf tab sigs (OP_spec_IsLabel f0) A_spec_IsLabel Try.f46 [(.bool, .no)] n (fun _ => 0) 0 m
theorem bP_spec_IsLabel_0 (f0 : Int → Int → Int → Bool) (n m : Nat) (v0_0 : ByteArray) (v0_1 : Int) : L_P_spec_IsLabel_0 f0 n (m + 1) (S_spec_IsLabel_0 v0_0 v0_1) = spec_IsLabel_P_L0 f0 (fun r0 => some [⟨.bool, r0⟩]) (fun v0_0 v0_1 => L_P_spec_IsLabel_0 f0 n m (S_spec_IsLabel_0 v0_0 v0_1)) v0_0 v0_1 := by kernel_rfl
theorem aP_spec_IsLabel (f0 : Int → Int → Int → Bool) (n : Nat) (a0 : ByteArray) : absF tab sigs (OP_spec_IsLabel f0) A_spec_IsLabel Try.f46 [(.bool, .no)] n [.val .str a0] = spec_IsLabel_P f0 (fun r0 => some [⟨.bool, r0⟩]) (fun v0_0 v0_1 => L_P_spec_IsLabel_0 f0 n n (S_spec_IsLabel_0 v0_0 v0_1)) a0 := by kernel_rfl
theorem said_spec_IsLabel (a0 : ByteArray) (g : G.spec_IsLabel a0 = true) : Said Try.prog sigs_46 46 [.val .str a0] [⟨.bool, N.spec_IsLabel a0⟩] := said_len (T := tab) (A := A_spec_IsLabel) tabOk ok_spec_IsLabel tabOk.follows Try.func46 (by kernel_rfl) (by kernel_rfl) (fun hl => let ⟨n, hn⟩ := spec_IsLabel_ok (ρ := Ret) (fun r0 => some [⟨.bool, r0⟩]) a0 g; ⟨n, (aP_spec_IsLabel N.spec_l1In n a0).trans (hn n (Nat.le_refl n) (fun  m v0_0 v0_1 => L_P_spec_IsLabel_0 N.spec_l1In n  m (S_spec_IsLabel_0 v0_0 v0_1)) (fun  m v0_0 v0_1 => bP_spec_IsLabel_0 N.spec_l1In n  m v0_0 v0_1))⟩)
abbrev G.spec_IsPath (p : List ByteArray) : Bool := decide (wP p ≤ 1048576)
abbrev N.spec_IsPath (p : List ByteArray) : Bool := isPath p
def spec_IsPath_P_L0 {ρ : Type} (f0 : ByteArray → Bool) (g0 : ByteArray → Bool) (f1 : Int → Int → Int → Bool) (k : Bool → Option ρ) (L0 : (List ByteArray) → Int → Option ρ) (v0_0 : (List ByteArray)) (v0_1 : Int) : Option ρ := (cond (decide (v0_1 < (List.length v0_0 : Int))) (cond (inRange v0_1 (List.length v0_0)) (cond (g0 (List.getD v0_0 (Int.toNat v0_1) ByteArray.empty)) (cond (!(f0 (List.getD v0_0 (Int.toNat v0_1) ByteArray.empty))) (k false) (L0 v0_0 (IntKind.wrap .i64 (v0_1 + (1 : Int))))) none) none) (k (f1 (List.length v0_0 : Int) (1 : Int) (4 : Int))))
def spec_IsPath_P {ρ : Type} (f0 : ByteArray → Bool) (g0 : ByteArray → Bool) (f1 : Int → Int → Int → Bool) (k : Bool → Option ρ) (L0 : (List ByteArray) → Int → Option ρ) (a0 : (List ByteArray)) : Option ρ := (L0 a0 (0 : Int))
def spec_IsPath_L0 {ρ : Type} (k : Bool → Option ρ) (L0 : (List ByteArray) → Int → Option ρ) (v0_0 : (List ByteArray)) (v0_1 : Int) : Option ρ := spec_IsPath_P_L0 N.spec_IsLabel G.spec_IsLabel N.spec_l1In k L0 v0_0 v0_1
def spec_IsPath {ρ : Type} (k : Bool → Option ρ) (L0 : (List ByteArray) → Int → Option ρ) (a0 : (List ByteArray)) : Option ρ := spec_IsPath_P N.spec_IsLabel G.spec_IsLabel N.spec_l1In k L0 a0
theorem spec_IsPath_ok {ρ : Type} (k : Bool → Option ρ) (a0 : (List ByteArray)) (l_a0 : lnL (fun _ => True) a0) (g : G.spec_IsPath a0 = true) : ∃ n0, ∀ n, n0 ≤ n → ∀ (L0 : Nat → (List ByteArray) → Int → Option ρ) (h0 : ∀ ( m : Nat) (v0_0 : (List ByteArray)) (v0_1 : Int), L0 (m + 1) v0_0 v0_1 = spec_IsPath_L0 k (L0 m) v0_0 v0_1), spec_IsPath k (L0 n) a0 = k (N.spec_IsPath a0) := by
  unfold G.spec_IsPath at g
  have hw : wP a0 ≤ 1048576 := of_decide_eq_true g
  have hl : a0.length ≤ 1048576 := by unfold wP at hw; omega
  refine ⟨a0.length + 1, fun n hn L0 h0 => ?_⟩
  refine (raw_all (a := a0) ByteArray.empty isLabel (σ := Unit) (s := ()) (r := k false) (e := fun _ => k (inR (a0.length : Int) 1 4)) (L := fun m i _ => L0 m a0 i) (R := fun i _ c => spec_IsPath_L0 k (fun _ i => c i ()) a0 i) (fun m i s => h0 m a0 i) (fun j s c hj => ?_) (fun s c => ?_) hn).trans ?_
  · have hm := wP_mem (getD_mem (d := ByteArray.empty) hj)
    have g2 : decide ((a0.getD j ByteArray.empty).size ≤ 1048576) = true := by simp only [decide_eq_true_eq]; omega
    simp only [spec_IsPath_L0, spec_IsPath_P_L0, lt_nat, inRange_nat, decide_eq_true hj, cond_true, Int.toNat_natCast, G.spec_IsLabel, N.spec_IsLabel, g2, wrap_succ (j := j) (by unfold big; omega)]
    cases isLabel (a0.getD j ByteArray.empty) <;> rfl
  · simp [spec_IsPath_L0, spec_IsPath_P_L0]
  · show _ = k (inR (a0.length : Int) 1 4 && a0.all isLabel)
    cases a0.all isLabel <;> cases inR (a0.length : Int) 1 4 <;> rfl
def OP_spec_IsPath (f0 : ByteArray → Bool) (g0 : ByteArray → Bool) (f1 : Int → Int → Int → Bool) : Orac := (orcX 50 [.val (.int .i64), .val (.int .i64), .val (.int .i64)] (fun d => true) (fun d => [⟨.bool, f1 d.1 d.2.1 d.2.2.1⟩]) (orcX 46 [.val .str] (fun d => g0 d.1) (fun d => [⟨.bool, f0 d.1⟩]) nilO))
def O_spec_IsPath : Orac := OP_spec_IsPath N.spec_IsLabel G.spec_IsLabel N.spec_l1In
theorem ok_spec_IsPath : OracOk Try.prog sigs O_spec_IsPath := (orcX_ok rfl rfl (fun d g => said_spec_l1In d.1 d.2.1 d.2.2.1) (orcX_ok rfl rfl (fun d g => said_spec_IsLabel d.1 g) nilO_ok))
def A_spec_IsPath : Ann := fun b => cond (Nat.beq b 0) ⟨[(0, false), (3, false)], []⟩ (⟨[], []⟩)
def S_spec_IsPath_0 (v0_0 : (List ByteArray)) (v0_1 : Int) : St := [(kT 0, some (.tv (.v (.slice 9 .str) v0_0 .no))), (kT 3, some (.tv (.v (.int .i64) v0_1 .no)))]
noncomputable def L_P_spec_IsPath_0 (f0 : ByteArray → Bool) (g0 : ByteArray → Bool) (f1 : Int → Int → Int → Bool) (n m : Nat) : St → Option Ret := loopOf tab sigs (OP_spec_IsPath f0 g0 f1) A_spec_IsPath Try.f51 [(.bool, .no)] n (fun _ => 0) 0 m
theorem bP_spec_IsPath_0 (f0 : ByteArray → Bool) (g0 : ByteArray → Bool) (f1 : Int → Int → Int → Bool) (n m : Nat) (v0_0 : (List ByteArray)) (v0_1 : Int) : L_P_spec_IsPath_0 f0 g0 f1 n (m + 1) (S_spec_IsPath_0 v0_0 v0_1) = spec_IsPath_P_L0 f0 g0 f1 (fun r0 => some [⟨.bool, r0⟩]) (fun v0_0 v0_1 => L_P_spec_IsPath_0 f0 g0 f1 n m (S_spec_IsPath_0 v0_0 v0_1)) v0_0 v0_1 := by kernel_rfl
theorem aP_spec_IsPath (f0 : ByteArray → Bool) (g0 : ByteArray → Bool) (f1 : Int → Int → Int → Bool) (n : Nat) (a0 : (List ByteArray)) : absF tab sigs (OP_spec_IsPath f0 g0 f1) A_spec_IsPath Try.f51 [(.bool, .no)] n [.val (.slice 9 .str) a0] = spec_IsPath_P f0 g0 f1 (fun r0 => some [⟨.bool, r0⟩]) (fun v0_0 v0_1 => L_P_spec_IsPath_0 f0 g0 f1 n n (S_spec_IsPath_0 v0_0 v0_1)) a0 := by kernel_rfl
theorem said_spec_IsPath (a0 : (List ByteArray)) (g : G.spec_IsPath a0 = true) : Said Try.prog sigs_51 51 [.val (.slice 9 .str) a0] [⟨.bool, N.spec_IsPath a0⟩] := said_len (T := tab) (A := A_spec_IsPath) tabOk ok_spec_IsPath tabOk.follows Try.func51 (by kernel_rfl) (by kernel_rfl) (fun hl => let ⟨n, hn⟩ := spec_IsPath_ok (ρ := Ret) (fun r0 => some [⟨.bool, r0⟩]) a0 hl.1 g; ⟨n, (aP_spec_IsPath N.spec_IsLabel G.spec_IsLabel N.spec_l1In n a0).trans (hn n (Nat.le_refl n) (fun  m v0_0 v0_1 => L_P_spec_IsPath_0 N.spec_IsLabel G.spec_IsLabel N.spec_l1In n  m (S_spec_IsPath_0 v0_0 v0_1)) (fun  m v0_0 v0_1 => bP_spec_IsPath_0 N.spec_IsLabel G.spec_IsLabel N.spec_l1In n  m v0_0 v0_1))⟩)
abbrev G.spec_IsEntry (e : TEntry) : Bool := decide (wE e ≤ 1048576)
abbrev N.spec_IsEntry (e : TEntry) : Bool := isEntry e
def spec_IsEntry_P {ρ : Type} (f0 : ByteArray → Bool) (g0 : ByteArray → Bool) (f1 : Int → Int → Int → Bool) (f2 : (List ByteArray) → Bool) (g2 : (List ByteArray) → Bool) (k : Bool → Option ρ) (a0 : TEntry) : Option ρ := (cond (a0.2.1 == (1 : Int)) (cond (g0 a0.1) (cond (f0 a0.1) (cond (f1 a0.2.2.1 (0 : Int) (999999 : Int)) (k ((List.length a0.2.2.2 : Int) == (0 : Int))) (k false)) (k false)) none) (cond (a0.2.1 == (2 : Int)) (cond (g0 a0.1) (cond (f0 a0.1) (cond (f1 a0.2.2.1 (0 : Int) (2147483646 : Int)) (k ((List.length a0.2.2.2 : Int) == (0 : Int))) (k false)) (k false)) none) (cond (a0.2.1 == (3 : Int)) (cond (g0 a0.1) (cond (f0 a0.1) (cond (f1 a0.2.2.1 (0 : Int) (2147483646 : Int)) (cond (g2 a0.2.2.2) (k (f2 a0.2.2.2)) none) (k false)) (k false)) none) (k false))))
def spec_IsEntry {ρ : Type} (k : Bool → Option ρ) (a0 : TEntry) : Option ρ := spec_IsEntry_P N.spec_IsLabel G.spec_IsLabel N.spec_l1In N.spec_IsPath G.spec_IsPath k a0
theorem spec_IsEntry_ok {ρ : Type} (k : Bool → Option ρ) (a0 : TEntry) (l_a0 : (True ∧ (True ∧ (True ∧ lnL (fun _ => True) a0.2.2.2)))) (g : G.spec_IsEntry a0 = true) : spec_IsEntry k  a0 = k (N.spec_IsEntry a0) := by
  unfold G.spec_IsEntry at g
  have hw : wE a0 ≤ 1048576 := of_decide_eq_true g
  have g1 : decide (a0.1.size ≤ 1048576) = true := by unfold wE at hw; simp; omega
  have g2 : decide (wP a0.2.2.2 ≤ 1048576) = true := by unfold wE at hw; simp; omega
  simp only [spec_IsEntry, spec_IsEntry_P, G.spec_IsLabel, N.spec_IsLabel, G.spec_IsPath, N.spec_IsPath, N.spec_l1In, g1, g2, cond_true, isEntry, isDigest]
  by_cases h1 : a0.2.1 = 1
  · have e1 : (a0.2.1 == 1) = true := by simp [h1]
    have e2 : (a0.2.1 == 2) = false := by simp [h1]
    have e3 : (a0.2.1 == 3) = false := by simp [h1]
    simp only [e1, e2, e3]
    cases isLabel a0.1 <;> cases inR a0.2.2.1 0 999999 <;> simp
  by_cases h2 : a0.2.1 = 2
  · have e1 : (a0.2.1 == 1) = false := by simp [h2]
    have e2 : (a0.2.1 == 2) = true := by simp [h2]
    have e3 : (a0.2.1 == 3) = false := by simp [h2]
    simp only [e1, e2, e3]
    cases isLabel a0.1 <;> cases inR a0.2.2.1 0 2147483646 <;> simp
  have e1 : (a0.2.1 == 1) = false := by simp [h1]
  have e2 : (a0.2.1 == 2) = false := by simp [h2]
  simp only [e1, e2]
  cases a0.2.1 == 3 <;> cases isLabel a0.1 <;> cases inR a0.2.2.1 0 2147483646 <;> simp
def OP_spec_IsEntry (f0 : ByteArray → Bool) (g0 : ByteArray → Bool) (f1 : Int → Int → Int → Bool) (f2 : (List ByteArray) → Bool) (g2 : (List ByteArray) → Bool) : Orac := (orcX 51 [.val (.slice 9 .str)] (fun d => g2 d.1) (fun d => [⟨.bool, f2 d.1⟩]) (orcX 50 [.val (.int .i64), .val (.int .i64), .val (.int .i64)] (fun d => true) (fun d => [⟨.bool, f1 d.1 d.2.1 d.2.2.1⟩]) (orcX 46 [.val .str] (fun d => g0 d.1) (fun d => [⟨.bool, f0 d.1⟩]) nilO)))
def O_spec_IsEntry : Orac := OP_spec_IsEntry N.spec_IsLabel G.spec_IsLabel N.spec_l1In N.spec_IsPath G.spec_IsPath
theorem ok_spec_IsEntry : OracOk Try.prog sigs O_spec_IsEntry := (orcX_ok rfl rfl (fun d g => said_spec_IsPath d.1 g) (orcX_ok rfl rfl (fun d g => said_spec_l1In d.1 d.2.1 d.2.2.1) (orcX_ok rfl rfl (fun d g => said_spec_IsLabel d.1 g) nilO_ok)))
def A_spec_IsEntry : Ann := fun b => ⟨[], []⟩
theorem aP_spec_IsEntry (f0 : ByteArray → Bool) (g0 : ByteArray → Bool) (f1 : Int → Int → Int → Bool) (f2 : (List ByteArray) → Bool) (g2 : (List ByteArray) → Bool) (n : Nat) (a0 : TEntry) : absF tab sigs (OP_spec_IsEntry f0 g0 f1 f2 g2) A_spec_IsEntry Try.f40 [(.bool, .no)] n [.val TyEntry a0] = spec_IsEntry_P f0 g0 f1 f2 g2 (fun r0 => some [⟨.bool, r0⟩])  a0 := by kernel_rfl
theorem said_spec_IsEntry (a0 : TEntry) (g : G.spec_IsEntry a0 = true) : Said Try.prog sigs_40 40 [.val TyEntry a0] [⟨.bool, N.spec_IsEntry a0⟩] := said_len (T := tab) (A := A_spec_IsEntry) tabOk ok_spec_IsEntry tabOk.follows Try.func40 (by kernel_rfl) (by kernel_rfl) (fun hl => ⟨0, (aP_spec_IsEntry N.spec_IsLabel G.spec_IsLabel N.spec_l1In N.spec_IsPath G.spec_IsPath 0 a0).trans (spec_IsEntry_ok (ρ := Ret) (fun r0 => some [⟨.bool, r0⟩]) a0 hl.1 g)⟩)
abbrev G.spec_AreEntries (l : List TEntry) : Bool := decide (wEs l ≤ 1048577)
abbrev N.spec_AreEntries (l : List TEntry) : Bool := areEntries l
def spec_AreEntries_P_L0 {ρ : Type} (f0 : TEntry → Bool) (g0 : TEntry → Bool) (f1 : ByteArray → ByteArray → Int) (k : Bool → Option ρ) (L0 : (List TEntry) → Int → Option ρ) (v0_0 : (List TEntry)) (v0_1 : Int) : Option ρ := (cond (decide (v0_1 < (List.length v0_0 : Int))) (cond (inRange v0_1 (List.length v0_0)) (cond (g0 (List.getD v0_0 (Int.toNat v0_1) (ByteArray.empty, ((0 : Int), ((0 : Int), []))))) (cond (!(f0 (List.getD v0_0 (Int.toNat v0_1) (ByteArray.empty, ((0 : Int), ((0 : Int), [])))))) (k false) (cond (decide (v0_1 > (0 : Int))) (cond (inRange (IntKind.wrap .i64 (v0_1 - (1 : Int))) (List.length v0_0)) (cond (inRange v0_1 (List.length v0_0)) (cond ((f1 (List.getD v0_0 (Int.toNat (IntKind.wrap .i64 (v0_1 - (1 : Int)))) (ByteArray.empty, ((0 : Int), ((0 : Int), [])))).1 (List.getD v0_0 (Int.toNat v0_1) (ByteArray.empty, ((0 : Int), ((0 : Int), [])))).1) != (-1 : Int)) (k false) (L0 v0_0 (IntKind.wrap .i64 (v0_1 + (1 : Int))))) none) none) (L0 v0_0 (IntKind.wrap .i64 (v0_1 + (1 : Int)))))) none) none) (k (decide ((List.length v0_0 : Int) ≤ (12 : Int)))))
def spec_AreEntries_P {ρ : Type} (f0 : TEntry → Bool) (g0 : TEntry → Bool) (f1 : ByteArray → ByteArray → Int) (k : Bool → Option ρ) (L0 : (List TEntry) → Int → Option ρ) (a0 : (List TEntry)) : Option ρ := (L0 a0 (0 : Int))
def spec_AreEntries_L0 {ρ : Type} (k : Bool → Option ρ) (L0 : (List TEntry) → Int → Option ρ) (v0_0 : (List TEntry)) (v0_1 : Int) : Option ρ := spec_AreEntries_P_L0 N.spec_IsEntry G.spec_IsEntry N.spec_CompareLabels k L0 v0_0 v0_1
def spec_AreEntries {ρ : Type} (k : Bool → Option ρ) (L0 : (List TEntry) → Int → Option ρ) (a0 : (List TEntry)) : Option ρ := spec_AreEntries_P N.spec_IsEntry G.spec_IsEntry N.spec_CompareLabels k L0 a0
theorem spec_AreEntries_ok {ρ : Type} (k : Bool → Option ρ) (a0 : (List TEntry)) (l_a0 : lnL (fun y => (True ∧ (True ∧ (True ∧ lnL (fun _ => True) y.2.2.2)))) a0) (g : G.spec_AreEntries a0 = true) : ∃ n0, ∀ n, n0 ≤ n → ∀ (L0 : Nat → (List TEntry) → Int → Option ρ) (h0 : ∀ ( m : Nat) (v0_0 : (List TEntry)) (v0_1 : Int), L0 (m + 1) v0_0 v0_1 = spec_AreEntries_L0 k (L0 m) v0_0 v0_1), spec_AreEntries k (L0 n) a0 = k (N.spec_AreEntries a0) := by
  unfold G.spec_AreEntries at g
  have hw : wEs a0 ≤ 1048577 := of_decide_eq_true g
  have hl : a0.length ≤ 1048577 := by unfold wEs at hw; omega
  refine ⟨a0.length + 1, fun n hn L0 h0 => ?_⟩
  have hrun := raw_run0 (σ := Unit) (s := ()) (L := fun m i _ => L0 m a0 i) (R := fun i _ c => spec_AreEntries_L0 k (fun _ i => c i ()) a0 i) (fun m i s => h0 m a0 i) a0.length (fun _ _ => True) (fun j _ => cond (areFrom a0 (a0.length - j) j) (k (decide (a0.length ≤ 12))) (k false)) (fun j s c hj _ hc => ?_) (fun s c _ => ?_) hn trivial
  · refine hrun.trans ?_
    show _ = k (areFrom a0 a0.length 0 && decide (a0.length ≤ 12))
    rw [Nat.sub_zero]
    cases areFrom a0 a0.length 0 <;> rfl
  · obtain ⟨m, hm⟩ : ∃ m, a0.length - j = m + 1 := ⟨a0.length - j - 1, by omega⟩
    have hm2 : a0.length - (j + 1) = m := by omega
    have hc' := hc () trivial
    rw [hm2] at hc'
    have hmem := wEs_mem1 (getD_mem (d := (ByteArray.empty, (0, (0, [])))) hj)
    have g2 : decide (wE (a0.getD j (ByteArray.empty, (0, (0, [])))) ≤ 1048576) = true := by simp only [decide_eq_true_eq]; omega
    rw [hm]
    unfold areFrom
    by_cases h0j : j = 0
    · subst h0j
      simp only [spec_AreEntries_L0, spec_AreEntries_P_L0, lt_nat, inRange_nat, decide_eq_true hj, cond_true, Int.toNat_natCast, G.spec_IsEntry, N.spec_IsEntry, g2, wrap_succ (j := 0) (by unfold big; omega), hc']
      cases isEntry (a0.getD 0 (ByteArray.empty, (0, (0, [])))) <;> simp
    · have e1 : decide ((j : Int) > 0) = true := by simp; omega
      have e2 : IntKind.wrap .i64 ((j : Int) - 1) = ((j - 1 : Nat) : Int) := by rw [wrap_id (by omega) (by omega)]; omega
      have e3 : j - 1 < a0.length := by omega
      simp only [spec_AreEntries_L0, spec_AreEntries_P_L0, lt_nat, inRange_nat, decide_eq_true hj, cond_true, Int.toNat_natCast, G.spec_IsEntry, N.spec_IsEntry, N.spec_CompareLabels, g2, e1, e2, decide_eq_true e3, wrap_succ (j := j) (by unfold big; omega), hc', decide_eq_false h0j, bne]
      cases isEntry (a0.getD j (ByteArray.empty, (0, (0, [])))) <;> cases cmpStr (a0.getD (j - 1) (ByteArray.empty, (0, (0, [])))).1 (a0.getD j (ByteArray.empty, (0, (0, [])))).1 == -1 <;> simp
  · have e1 : decide ((a0.length : Int) ≤ 12) = decide (a0.length ≤ 12) := by simp only [decide_eq_decide]; omega
    rw [Nat.sub_self]
    simp [spec_AreEntries_L0, spec_AreEntries_P_L0, areFrom, e1]
def OP_spec_AreEntries (f0 : TEntry → Bool) (g0 : TEntry → Bool) (f1 : ByteArray → ByteArray → Int) : Orac := (orcX 22 [.val .str, .val .str] (fun d => true) (fun d => [⟨(.int .i64), f1 d.1 d.2.1⟩]) (orcX 40 [.val TyEntry] (fun d => g0 d.1) (fun d => [⟨.bool, f0 d.1⟩]) nilO))
def O_spec_AreEntries : Orac := OP_spec_AreEntries N.spec_IsEntry G.spec_IsEntry N.spec_CompareLabels
theorem ok_spec_AreEntries : OracOk Try.prog sigs O_spec_AreEntries := (orcX_ok rfl rfl (fun d g => said_spec_CompareLabels d.1 d.2.1) (orcX_ok rfl rfl (fun d g => said_spec_IsEntry d.1 g) nilO_ok))
def A_spec_AreEntries : Ann := fun b => cond (Nat.beq b 0) ⟨[(0, false), (3, false)], []⟩ (⟨[], []⟩)
def S_spec_AreEntries_0 (v0_0 : (List TEntry)) (v0_1 : Int) : St := [(kT 0, some (.tv (.v (.slice 32 TyEntry) v0_0 .no))), (kT 3, some (.tv (.v (.int .i64) v0_1 .no)))]
noncomputable def L_P_spec_AreEntries_0 (f0 : TEntry → Bool) (g0 : TEntry → Bool) (f1 : ByteArray → ByteArray → Int) (n m : Nat) : St → Option Ret := loopOf tab sigs (OP_spec_AreEntries f0 g0 f1) A_spec_AreEntries Try.f24 [(.bool, .no)] n (fun _ => 0) 0 m
theorem bP_spec_AreEntries_0 (f0 : TEntry → Bool) (g0 : TEntry → Bool) (f1 : ByteArray → ByteArray → Int) (n m : Nat) (v0_0 : (List TEntry)) (v0_1 : Int) : L_P_spec_AreEntries_0 f0 g0 f1 n (m + 1) (S_spec_AreEntries_0 v0_0 v0_1) = spec_AreEntries_P_L0 f0 g0 f1 (fun r0 => some [⟨.bool, r0⟩]) (fun v0_0 v0_1 => L_P_spec_AreEntries_0 f0 g0 f1 n m (S_spec_AreEntries_0 v0_0 v0_1)) v0_0 v0_1 := by kernel_rfl
theorem aP_spec_AreEntries (f0 : TEntry → Bool) (g0 : TEntry → Bool) (f1 : ByteArray → ByteArray → Int) (n : Nat) (a0 : (List TEntry)) : absF tab sigs (OP_spec_AreEntries f0 g0 f1) A_spec_AreEntries Try.f24 [(.bool, .no)] n [.val (.slice 32 TyEntry) a0] = spec_AreEntries_P f0 g0 f1 (fun r0 => some [⟨.bool, r0⟩]) (fun v0_0 v0_1 => L_P_spec_AreEntries_0 f0 g0 f1 n n (S_spec_AreEntries_0 v0_0 v0_1)) a0 := by kernel_rfl
theorem said_spec_AreEntries (a0 : (List TEntry)) (g : G.spec_AreEntries a0 = true) : Said Try.prog sigs_24 24 [.val (.slice 32 TyEntry) a0] [⟨.bool, N.spec_AreEntries a0⟩] := said_len (T := tab) (A := A_spec_AreEntries) tabOk ok_spec_AreEntries tabOk.follows Try.func24 (by kernel_rfl) (by kernel_rfl) (fun hl => let ⟨n, hn⟩ := spec_AreEntries_ok (ρ := Ret) (fun r0 => some [⟨.bool, r0⟩]) a0 hl.1 g; ⟨n, (aP_spec_AreEntries N.spec_IsEntry G.spec_IsEntry N.spec_CompareLabels n a0).trans (hn n (Nat.le_refl n) (fun  m v0_0 v0_1 => L_P_spec_AreEntries_0 N.spec_IsEntry G.spec_IsEntry N.spec_CompareLabels n  m (S_spec_AreEntries_0 v0_0 v0_1)) (fun  m v0_0 v0_1 => bP_spec_AreEntries_0 N.spec_IsEntry G.spec_IsEntry N.spec_CompareLabels n  m v0_0 v0_1))⟩)
abbrev G.spec_l9Copy (l : List TEntry) : Bool := decide (wEs l ≤ 1048576)
abbrev N.spec_l9Copy (l : List TEntry) : List TEntry := l
def spec_l9Copy_P_L0 {ρ : Type} (f0 : TEntry → TEntry) (g0 : TEntry → Bool) (k : (List TEntry) → Option ρ) (L0 : (List TEntry) → Int → (List TEntry) → Option ρ) (v0_0 : (List TEntry)) (v0_1 : Int) (v0_2 : (List TEntry)) : Option ρ := (cond (decide (v0_1 < (List.length v0_0 : Int))) (cond (inRange v0_1 (List.length v0_0)) (cond (g0 (List.getD v0_0 (Int.toNat v0_1) (ByteArray.empty, ((0 : Int), ((0 : Int), []))))) (cond (fit (List.length v0_2) (List.length [(f0 (List.getD v0_0 (Int.toNat v0_1) (ByteArray.empty, ((0 : Int), ((0 : Int), [])))))])) (L0 v0_0 (IntKind.wrap .i64 (v0_1 + (1 : Int))) (List.append v0_2 [(f0 (List.getD v0_0 (Int.toNat v0_1) (ByteArray.empty, ((0 : Int), ((0 : Int), [])))))])) none) none) none) (k v0_2))
def spec_l9Copy_P {ρ : Type} (f0 : TEntry → TEntry) (g0 : TEntry → Bool) (k : (List TEntry) → Option ρ) (L0 : (List TEntry) → Int → (List TEntry) → Option ρ) (a0 : (List TEntry)) : Option ρ := (L0 a0 (0 : Int) ([] : (List (ByteArray × (Int × (Int × (List ByteArray)))))))
def spec_l9Copy_L0 {ρ : Type} (k : (List TEntry) → Option ρ) (L0 : (List TEntry) → Int → (List TEntry) → Option ρ) (v0_0 : (List TEntry)) (v0_1 : Int) (v0_2 : (List TEntry)) : Option ρ := spec_l9Copy_P_L0 N.spec_l8Copy G.spec_l8Copy k L0 v0_0 v0_1 v0_2
def spec_l9Copy {ρ : Type} (k : (List TEntry) → Option ρ) (L0 : (List TEntry) → Int → (List TEntry) → Option ρ) (a0 : (List TEntry)) : Option ρ := spec_l9Copy_P N.spec_l8Copy G.spec_l8Copy k L0 a0
theorem spec_l9Copy_ok {ρ : Type} (k : (List TEntry) → Option ρ) (a0 : (List TEntry)) (l_a0 : lnL (fun y => (True ∧ (True ∧ (True ∧ lnL (fun _ => True) y.2.2.2)))) a0) (g : G.spec_l9Copy a0 = true) : ∃ n0, ∀ n, n0 ≤ n → ∀ (L0 : Nat → (List TEntry) → Int → (List TEntry) → Option ρ) (h0 : ∀ ( m : Nat) (v0_0 : (List TEntry)) (v0_1 : Int) (v0_2 : (List TEntry)), L0 (m + 1) v0_0 v0_1 v0_2 = spec_l9Copy_L0 k (L0 m) v0_0 v0_1 v0_2), spec_l9Copy k (L0 n) a0 = k (N.spec_l9Copy a0) := by
  unfold G.spec_l9Copy at g
  have hw : wEs a0 ≤ 1048576 := of_decide_eq_true g
  have hl := wEs_ge a0
  refine ⟨a0.length + 1, fun n hn L0 h0 => ?_⟩
  have go : ∀ (d n j : Nat), d + j = a0.length → d < n → L0 n a0 (j : Int) (a0.take j) = k a0 := by
    intro d
    induction d with
    | zero =>
      intro n j hd hn
      obtain ⟨m, rfl⟩ : ∃ m, n = m + 1 := ⟨n - 1, by omega⟩
      have e1 : decide ((j : Int) < (a0.length : Int)) = false := decide_eq_false (by omega)
      rw [h0]
      simp only [spec_l9Copy_L0, spec_l9Copy_P_L0, e1, cond_false]
      rw [List.take_of_length_le (by omega)]
    | succ d ih =>
      intro n j hd hn
      obtain ⟨m, rfl⟩ : ∃ m, n = m + 1 := ⟨n - 1, by omega⟩
      have hj : j < a0.length := by omega
      have hm := wEs_mem (getD_mem (d := (ByteArray.empty, (0, (0, [])))) hj)
      have g2 : decide ((a0.getD j (ByteArray.empty, (0, (0, [])))).2.2.2.length ≤ 1048576) = true := decide_eq_true (by
        have h1 := wP_ge (a0.getD j (ByteArray.empty, (0, (0, [])))).2.2.2
        unfold wE at hm
        omega)
      have hf : ∀ x : TEntry, fit (List.length (a0.take j)) (List.length [x]) = true := fun x => fit_of (by simp; omega)
      have ht : (a0.take j).append [a0.getD j (ByteArray.empty, (0, (0, [])))] = a0.take (j + 1) := by
        show a0.take j ++ [_] = _
        rw [List.getD_eq_getElem?_getD, List.getElem?_eq_getElem hj, List.take_succ_eq_append_getElem hj]
        rfl
      rw [h0]
      simp only [spec_l9Copy_L0, spec_l9Copy_P_L0, lt_nat, inRange_nat, decide_eq_true hj, cond_true, Int.toNat_natCast, G.spec_l8Copy, N.spec_l8Copy, g2, hf, wrap_succ (j := j) (by unfold big; omega), ht]
      exact ih m (j + 1) (by omega) (by omega)
  exact go a0.length n 0 (by omega) (by omega)
def OP_spec_l9Copy (f0 : TEntry → TEntry) (g0 : TEntry → Bool) : Orac := (orcX 23 [.val TyEntry] (fun d => g0 d.1) (fun d => [⟨TyEntry, f0 d.1⟩]) nilO)
def O_spec_l9Copy : Orac := OP_spec_l9Copy N.spec_l8Copy G.spec_l8Copy
theorem ok_spec_l9Copy : OracOk Try.prog sigs O_spec_l9Copy := (orcX_ok rfl rfl (fun d g => said_spec_l8Copy d.1 g) nilO_ok)
def A_spec_l9Copy : Ann := fun b => cond (Nat.beq b 0) ⟨[(0, false), (3, true), (4, false)], []⟩ (⟨[], []⟩)
def S_spec_l9Copy_0 (v0_0 : (List TEntry)) (v0_1 : Int) (v0_2 : (List TEntry)) : St := [(kT 0, some (.tv (.v (.slice 32 TyEntry) v0_0 .no))), (kT 3, some (.tv (.v (.slice 32 TyEntry) [] (.own 24)))), (kT 4, some (.tv (.v (.int .i64) v0_1 .no))), (kR 24, some (.row 32 TyEntry v0_2))]
noncomputable def L_P_spec_l9Copy_0 (f0 : TEntry → TEntry) (g0 : TEntry → Bool) (n m : Nat) : St → Option Ret := loopOf tab sigs (OP_spec_l9Copy f0 g0) A_spec_l9Copy Try.f25 [((.slice 32 TyEntry), (.own 0))] n (fun _ => 0) 0 m
theorem bP_spec_l9Copy_0 (f0 : TEntry → TEntry) (g0 : TEntry → Bool) (n m : Nat) (v0_0 : (List TEntry)) (v0_1 : Int) (v0_2 : (List TEntry)) : L_P_spec_l9Copy_0 f0 g0 n (m + 1) (S_spec_l9Copy_0 v0_0 v0_1 v0_2) = spec_l9Copy_P_L0 f0 g0 (fun r0 => some [⟨(.slice 32 TyEntry), r0⟩]) (fun v0_0 v0_1 v0_2 => L_P_spec_l9Copy_0 f0 g0 n m (S_spec_l9Copy_0 v0_0 v0_1 v0_2)) v0_0 v0_1 v0_2 := by kernel_rfl
theorem aP_spec_l9Copy (f0 : TEntry → TEntry) (g0 : TEntry → Bool) (n : Nat) (a0 : (List TEntry)) : absF tab sigs (OP_spec_l9Copy f0 g0) A_spec_l9Copy Try.f25 [((.slice 32 TyEntry), (.own 0))] n [.val (.slice 32 TyEntry) a0] = spec_l9Copy_P f0 g0 (fun r0 => some [⟨(.slice 32 TyEntry), r0⟩]) (fun v0_0 v0_1 v0_2 => L_P_spec_l9Copy_0 f0 g0 n n (S_spec_l9Copy_0 v0_0 v0_1 v0_2)) a0 := by kernel_rfl
theorem said_spec_l9Copy (a0 : (List TEntry)) (g : G.spec_l9Copy a0 = true) : Said Try.prog sigs_25 25 [.val (.slice 32 TyEntry) a0] [⟨(.slice 32 TyEntry), N.spec_l9Copy a0⟩] := said_len (T := tab) (A := A_spec_l9Copy) tabOk ok_spec_l9Copy tabOk.follows Try.func25 (by kernel_rfl) (by kernel_rfl) (fun hl => let ⟨n, hn⟩ := spec_l9Copy_ok (ρ := Ret) (fun r0 => some [⟨(.slice 32 TyEntry), r0⟩]) a0 hl.1 g; ⟨n, (aP_spec_l9Copy N.spec_l8Copy G.spec_l8Copy n a0).trans (hn n (Nat.le_refl n) (fun  m v0_0 v0_1 v0_2 => L_P_spec_l9Copy_0 N.spec_l8Copy G.spec_l8Copy n  m (S_spec_l9Copy_0 v0_0 v0_1 v0_2)) (fun  m v0_0 v0_1 v0_2 => bP_spec_l9Copy_0 N.spec_l8Copy G.spec_l8Copy n  m v0_0 v0_1 v0_2))⟩)
abbrev G.spec_PutEntry (l : List TEntry) (e : TEntry) : Bool := decide (wEs l + wE e ≤ 1048576)
abbrev N.spec_PutEntry (l : List TEntry) (e : TEntry) : List TEntry × Bool := putE l e
def spec_PutEntry_P_L0 {ρ : Type} (f0 : ByteArray → ByteArray → Int) (f1 : TEntry → TEntry) (g1 : TEntry → Bool) (f2 : (List TEntry) → Bool) (g2 : (List TEntry) → Bool) (f3 : (List TEntry) → (List TEntry)) (g3 : (List TEntry) → Bool) (k : (List TEntry) → Bool → Option ρ) (L0 : (List TEntry) → Bool → Int → TEntry → (List TEntry) → Option ρ) (v0_0 : (List TEntry)) (v0_1 : Bool) (v0_2 : Int) (v0_3 : TEntry) (v0_4 : (List TEntry)) : Option ρ := (cond (decide (v0_2 < (List.length v0_0 : Int))) (cond (inRange v0_2 (List.length v0_0)) (cond (decide ((f0 (List.getD v0_0 (Int.toNat v0_2) (ByteArray.empty, ((0 : Int), ((0 : Int), [])))).1 v0_3.1) ≥ (0 : Int))) (cond (!v0_1) (cond (g1 v0_3) (cond (fit (List.length v0_4) (List.length [(f1 v0_3)])) (cond ((f0 (List.getD v0_0 (Int.toNat v0_2) (ByteArray.empty, ((0 : Int), ((0 : Int), [])))).1 v0_3.1) != (0 : Int)) (cond (inRange v0_2 (List.length v0_0)) (cond (g1 (List.getD v0_0 (Int.toNat v0_2) (ByteArray.empty, ((0 : Int), ((0 : Int), []))))) (cond (fit (List.length (List.append v0_4 [(f1 v0_3)])) (List.length [(f1 (List.getD v0_0 (Int.toNat v0_2) (ByteArray.empty, ((0 : Int), ((0 : Int), [])))))])) (L0 v0_0 true (IntKind.wrap .i64 (v0_2 + (1 : Int))) v0_3 (List.append (List.append v0_4 [(f1 v0_3)]) [(f1 (List.getD v0_0 (Int.toNat v0_2) (ByteArray.empty, ((0 : Int), ((0 : Int), [])))))])) none) none) none) (L0 v0_0 true (IntKind.wrap .i64 (v0_2 + (1 : Int))) v0_3 (List.append v0_4 [(f1 v0_3)]))) none) none) (cond ((f0 (List.getD v0_0 (Int.toNat v0_2) (ByteArray.empty, ((0 : Int), ((0 : Int), [])))).1 v0_3.1) != (0 : Int)) (cond (inRange v0_2 (List.length v0_0)) (cond (g1 (List.getD v0_0 (Int.toNat v0_2) (ByteArray.empty, ((0 : Int), ((0 : Int), []))))) (cond (fit (List.length v0_4) (List.length [(f1 (List.getD v0_0 (Int.toNat v0_2) (ByteArray.empty, ((0 : Int), ((0 : Int), [])))))])) (L0 v0_0 v0_1 (IntKind.wrap .i64 (v0_2 + (1 : Int))) v0_3 (List.append v0_4 [(f1 (List.getD v0_0 (Int.toNat v0_2) (ByteArray.empty, ((0 : Int), ((0 : Int), [])))))])) none) none) none) (L0 v0_0 v0_1 (IntKind.wrap .i64 (v0_2 + (1 : Int))) v0_3 v0_4))) (cond ((f0 (List.getD v0_0 (Int.toNat v0_2) (ByteArray.empty, ((0 : Int), ((0 : Int), [])))).1 v0_3.1) != (0 : Int)) (cond (inRange v0_2 (List.length v0_0)) (cond (g1 (List.getD v0_0 (Int.toNat v0_2) (ByteArray.empty, ((0 : Int), ((0 : Int), []))))) (cond (fit (List.length v0_4) (List.length [(f1 (List.getD v0_0 (Int.toNat v0_2) (ByteArray.empty, ((0 : Int), ((0 : Int), [])))))])) (L0 v0_0 v0_1 (IntKind.wrap .i64 (v0_2 + (1 : Int))) v0_3 (List.append v0_4 [(f1 (List.getD v0_0 (Int.toNat v0_2) (ByteArray.empty, ((0 : Int), ((0 : Int), [])))))])) none) none) none) (L0 v0_0 v0_1 (IntKind.wrap .i64 (v0_2 + (1 : Int))) v0_3 v0_4))) none) (cond (!v0_1) (cond (g1 v0_3) (cond (fit (List.length v0_4) (List.length [(f1 v0_3)])) (cond (g2 v0_0) (cond (!(f2 v0_0)) (cond (g3 v0_0) (k (f3 v0_0) false) none) (cond (g2 (List.append v0_4 [(f1 v0_3)])) (cond (!(f2 (List.append v0_4 [(f1 v0_3)]))) (cond (g3 v0_0) (k (f3 v0_0) false) none) (k (List.append v0_4 [(f1 v0_3)]) true)) none)) none) none) none) (cond (g2 v0_0) (cond (!(f2 v0_0)) (cond (g3 v0_0) (k (f3 v0_0) false) none) (cond (g2 v0_4) (cond (!(f2 v0_4)) (cond (g3 v0_0) (k (f3 v0_0) false) none) (k v0_4 true)) none)) none)))
def spec_PutEntry_P {ρ : Type} (f0 : ByteArray → ByteArray → Int) (f1 : TEntry → TEntry) (g1 : TEntry → Bool) (f2 : (List TEntry) → Bool) (g2 : (List TEntry) → Bool) (f3 : (List TEntry) → (List TEntry)) (g3 : (List TEntry) → Bool) (k : (List TEntry) → Bool → Option ρ) (L0 : (List TEntry) → Bool → Int → TEntry → (List TEntry) → Option ρ) (a0 : (List TEntry)) (a1 : TEntry) : Option ρ := (L0 a0 false (0 : Int) a1 ([] : (List (ByteArray × (Int × (Int × (List ByteArray)))))))
def spec_PutEntry_L0 {ρ : Type} (k : (List TEntry) → Bool → Option ρ) (L0 : (List TEntry) → Bool → Int → TEntry → (List TEntry) → Option ρ) (v0_0 : (List TEntry)) (v0_1 : Bool) (v0_2 : Int) (v0_3 : TEntry) (v0_4 : (List TEntry)) : Option ρ := spec_PutEntry_P_L0 N.spec_CompareLabels N.spec_l8Copy G.spec_l8Copy N.spec_AreEntries G.spec_AreEntries N.spec_l9Copy G.spec_l9Copy k L0 v0_0 v0_1 v0_2 v0_3 v0_4
def spec_PutEntry {ρ : Type} (k : (List TEntry) → Bool → Option ρ) (L0 : (List TEntry) → Bool → Int → TEntry → (List TEntry) → Option ρ) (a0 : (List TEntry)) (a1 : TEntry) : Option ρ := spec_PutEntry_P N.spec_CompareLabels N.spec_l8Copy G.spec_l8Copy N.spec_AreEntries G.spec_AreEntries N.spec_l9Copy G.spec_l9Copy k L0 a0 a1
theorem spec_PutEntry_ok {ρ : Type} (k : (List TEntry) → Bool → Option ρ) (a0 : (List TEntry)) (a1 : TEntry) (l_a0 : lnL (fun y => (True ∧ (True ∧ (True ∧ lnL (fun _ => True) y.2.2.2)))) a0) (l_a1 : (True ∧ (True ∧ (True ∧ lnL (fun _ => True) a1.2.2.2)))) (g : G.spec_PutEntry a0 a1 = true) : ∃ n0, ∀ n, n0 ≤ n → ∀ (L0 : Nat → (List TEntry) → Bool → Int → TEntry → (List TEntry) → Option ρ) (h0 : ∀ ( m : Nat) (v0_0 : (List TEntry)) (v0_1 : Bool) (v0_2 : Int) (v0_3 : TEntry) (v0_4 : (List TEntry)), L0 (m + 1) v0_0 v0_1 v0_2 v0_3 v0_4 = spec_PutEntry_L0 k (L0 m) v0_0 v0_1 v0_2 v0_3 v0_4), spec_PutEntry k (L0 n) a0 a1 = k (N.spec_PutEntry a0 a1).1 (N.spec_PutEntry a0 a1).2 := by
  unfold G.spec_PutEntry at g
  have hw : wEs a0 + wE a1 ≤ 1048576 := of_decide_eq_true g
  have hl := wEs_ge a0
  have g1 : decide (wEs a0 ≤ 1048576) = true := decide_eq_true (by omega)
  have g1' : decide (wEs a0 ≤ 1048577) = true := decide_eq_true (by omega)
  have g3 : decide (a1.2.2.2.length ≤ 1048576) = true := decide_eq_true (by
    have := wP_ge a1.2.2.2
    unfold wE at hw
    omega)
  refine ⟨a0.length + 1, fun n hn L0 h0 => ?_⟩
  have go : ∀ (d n j : Nat) (s : Bool × List TEntry), d + j = a0.length → d < n → wEs s.2 + putW a1 s.1 + wEs (a0.drop j) ≤ 1048577 →
      L0 n a0 s.1 (j : Int) a1 s.2 = k (putFin a0 a1 (putGo a1 (a0.drop j) s)).1 (putFin a0 a1 (putGo a1 (a0.drop j) s)).2 := by
    intro d
    induction d with
    | zero =>
      intro n j s hd hn hs
      obtain ⟨m, rfl⟩ : ∃ m, n = m + 1 := ⟨n - 1, by omega⟩
      have e1 : decide ((j : Int) < (a0.length : Int)) = false := decide_eq_false (by omega)
      have hlo := wEs_ge s.2
      have g2 : decide (wEs (putOut a1 s) ≤ 1048577) = true := decide_eq_true (by rw [putOut_w]; omega)
      rw [h0, List.drop_eq_nil_of_le (by omega)]
      show _ = k (putFin a0 a1 s).1 (putFin a0 a1 s).2
      obtain ⟨b, o⟩ := s
      have hf : fit (List.length o) (List.length [a1]) = true := fit_of (by have hlo : o.length ≤ wEs o := hlo; have hs : wEs o + putW a1 b + wEs (a0.drop j) ≤ 1048577 := hs; simp; omega)
      simp only [spec_PutEntry_L0, spec_PutEntry_P_L0, e1, G.spec_l8Copy, N.spec_l8Copy, G.spec_AreEntries, N.spec_AreEntries, G.spec_l9Copy, N.spec_l9Copy, g1, g1', g3, hf, cond_true, cond_false]
      unfold putFin
      cases b with
      | true =>
        have g2 : decide (wEs o ≤ 1048577) = true := g2
        simp only [g2, Bool.not_true, cond_false, cond_true]
        show cond (!(areEntries a0)) (k a0 false) (cond (!(areEntries o)) (k a0 false) (k o true)) = k (cond (!(areEntries a0)) (a0, false) (cond (!(areEntries o)) (a0, false) (o, true))).1 (cond (!(areEntries a0)) (a0, false) (cond (!(areEntries o)) (a0, false) (o, true))).2
        cases (!(areEntries a0)) <;> cases (!(areEntries o)) <;> rfl
      | false =>
        have g2 : decide (wEs (o.append [a1]) ≤ 1048577) = true := g2
        simp only [g2, Bool.not_false, cond_true]
        show cond (!(areEntries a0)) (k a0 false) (cond (!(areEntries (o.append [a1]))) (k a0 false) (k (o.append [a1]) true)) = k (cond (!(areEntries a0)) (a0, false) (cond (!(areEntries (o.append [a1]))) (a0, false) (o.append [a1], true))).1 (cond (!(areEntries a0)) (a0, false) (cond (!(areEntries (o.append [a1]))) (a0, false) (o.append [a1], true))).2
        cases (!(areEntries a0)) <;> cases (!(areEntries (o.append [a1]))) <;> rfl
    | succ d ih =>
      intro n j s hd hn hs
      obtain ⟨m, rfl⟩ : ∃ m, n = m + 1 := ⟨n - 1, by omega⟩
      have hj : j < a0.length := by omega
      rw [drop_cons (ByteArray.empty, (0, (0, []))) hj] at hs ⊢
      rw [wEs_cons] at hs
      have hw1 := putStep_w a1 (a0.getD j (ByteArray.empty, (0, (0, [])))) s
      have hi := ih m (j + 1) (putStep a1 (a0.getD j (ByteArray.empty, (0, (0, [])))) s) (by omega) (by omega) (by omega)
      have g2 : decide ((a0.getD j (ByteArray.empty, (0, (0, [])))).2.2.2.length ≤ 1048576) = true := decide_eq_true (by
        have h1 := wP_ge (a0.getD j (ByteArray.empty, (0, (0, [])))).2.2.2
        unfold wE at hs
        omega)
      have hlo := wEs_ge s.2
      show _ = k (putFin a0 a1 (putGo a1 (a0.drop (j + 1)) (putStep a1 (a0.getD j (ByteArray.empty, (0, (0, [])))) s))).1 (putFin a0 a1 (putGo a1 (a0.drop (j + 1)) (putStep a1 (a0.getD j (ByteArray.empty, (0, (0, [])))) s))).2
      rw [← hi, h0]
      obtain ⟨b, o⟩ := s
      have hlo : o.length ≤ wEs o := hlo
      have hs : wEs o + putW a1 b + _ ≤ 1048577 := hs
      have hf : ∀ x : TEntry, fit (List.length o) (List.length [x]) = true := fun x => fit_of (by simp; omega)
      have hf2 : ∀ x : TEntry, fit (List.length (o.append [a1])) (List.length [x]) = true := fun x => fit_of (by show (o ++ [a1]).length + _ ≤ _; simp; omega)
      simp only [spec_PutEntry_L0, spec_PutEntry_P_L0, lt_nat, inRange_nat, decide_eq_true hj, cond_true, Int.toNat_natCast, G.spec_l8Copy, N.spec_l8Copy, N.spec_CompareLabels, g2, g3, hf, hf2, wrap_succ (j := j) (by unfold big; omega)]
      unfold putStep putAt
      cases decide (cmpStr (a0.getD j (ByteArray.empty, (0, (0, [])))).1 a1.1 ≥ 0) <;> cases b <;> cases (cmpStr (a0.getD j (ByteArray.empty, (0, (0, [])))).1 a1.1 != 0) <;> rfl
  exact go a0.length n 0 (false, []) (by omega) (by omega) (by
    have h3 : wEs ([] : List TEntry) = 0 := rfl
    have h4 : putW a1 false = 1 + wE a1 := rfl
    dsimp only
    rw [h3, h4, List.drop_zero]
    omega)
def OP_spec_PutEntry (f0 : ByteArray → ByteArray → Int) (f1 : TEntry → TEntry) (g1 : TEntry → Bool) (f2 : (List TEntry) → Bool) (g2 : (List TEntry) → Bool) (f3 : (List TEntry) → (List TEntry)) (g3 : (List TEntry) → Bool) : Orac := (orcX 25 [.val (.slice 32 TyEntry)] (fun d => g3 d.1) (fun d => [⟨(.slice 32 TyEntry), f3 d.1⟩]) (orcX 24 [.val (.slice 32 TyEntry)] (fun d => g2 d.1) (fun d => [⟨.bool, f2 d.1⟩]) (orcX 23 [.val TyEntry] (fun d => g1 d.1) (fun d => [⟨TyEntry, f1 d.1⟩]) (orcX 22 [.val .str, .val .str] (fun d => true) (fun d => [⟨(.int .i64), f0 d.1 d.2.1⟩]) nilO))))
def O_spec_PutEntry : Orac := OP_spec_PutEntry N.spec_CompareLabels N.spec_l8Copy G.spec_l8Copy N.spec_AreEntries G.spec_AreEntries N.spec_l9Copy G.spec_l9Copy
theorem ok_spec_PutEntry : OracOk Try.prog sigs O_spec_PutEntry := (orcX_ok rfl rfl (fun d g => said_spec_l9Copy d.1 g) (orcX_ok rfl rfl (fun d g => said_spec_AreEntries d.1 g) (orcX_ok rfl rfl (fun d g => said_spec_l8Copy d.1 g) (orcX_ok rfl rfl (fun d g => said_spec_CompareLabels d.1 d.2.1) nilO_ok))))
def A_spec_PutEntry : Ann := fun b => cond (Nat.beq b 0) ⟨[(0, false), (3, false), (6, true), (7, false), (8, false)], [(3, false)]⟩ (⟨[], []⟩)
def S_spec_PutEntry_0 (v0_0 : (List TEntry)) (v0_1 : Bool) (v0_2 : Int) (v0_3 : TEntry) (v0_4 : (List TEntry)) : St := [(kT 0, some (.tv (.v (.slice 32 TyEntry) v0_0 .no))), (kT 3, some (.tv (.box 3 []))), (kT 6, some (.tv (.v (.slice 32 TyEntry) [] (.own 48)))), (kT 7, some (.tv (.v .bool v0_1 .no))), (kT 8, some (.tv (.v (.int .i64) v0_2 .no))), (kB 3, some (.box TyEntry v0_3 .no)), (kR 48, some (.row 32 TyEntry v0_4))]
noncomputable def L_P_spec_PutEntry_0 (f0 : ByteArray → ByteArray → Int) (f1 : TEntry → TEntry) (g1 : TEntry → Bool) (f2 : (List TEntry) → Bool) (g2 : (List TEntry) → Bool) (f3 : (List TEntry) → (List TEntry)) (g3 : (List TEntry) → Bool) (n m : Nat) : St → Option Ret := loopOf tab sigs (OP_spec_PutEntry f0 f1 g1 f2 g2 f3 g3) A_spec_PutEntry Try.f7 [((.slice 32 TyEntry), (.own 0)), (.bool, .no)] n (fun _ => 0) 0 m
theorem bP_spec_PutEntry_0 (f0 : ByteArray → ByteArray → Int) (f1 : TEntry → TEntry) (g1 : TEntry → Bool) (f2 : (List TEntry) → Bool) (g2 : (List TEntry) → Bool) (f3 : (List TEntry) → (List TEntry)) (g3 : (List TEntry) → Bool) (n m : Nat) (v0_0 : (List TEntry)) (v0_1 : Bool) (v0_2 : Int) (v0_3 : TEntry) (v0_4 : (List TEntry)) : L_P_spec_PutEntry_0 f0 f1 g1 f2 g2 f3 g3 n (m + 1) (S_spec_PutEntry_0 v0_0 v0_1 v0_2 v0_3 v0_4) = spec_PutEntry_P_L0 f0 f1 g1 f2 g2 f3 g3 (fun r0 r1 => some [⟨(.slice 32 TyEntry), r0⟩, ⟨.bool, r1⟩]) (fun v0_0 v0_1 v0_2 v0_3 v0_4 => L_P_spec_PutEntry_0 f0 f1 g1 f2 g2 f3 g3 n m (S_spec_PutEntry_0 v0_0 v0_1 v0_2 v0_3 v0_4)) v0_0 v0_1 v0_2 v0_3 v0_4 := by kernel_rfl
theorem aP_spec_PutEntry (f0 : ByteArray → ByteArray → Int) (f1 : TEntry → TEntry) (g1 : TEntry → Bool) (f2 : (List TEntry) → Bool) (g2 : (List TEntry) → Bool) (f3 : (List TEntry) → (List TEntry)) (g3 : (List TEntry) → Bool) (n : Nat) (a0 : (List TEntry)) (a1 : TEntry) : absF tab sigs (OP_spec_PutEntry f0 f1 g1 f2 g2 f3 g3) A_spec_PutEntry Try.f7 [((.slice 32 TyEntry), (.own 0)), (.bool, .no)] n [.val (.slice 32 TyEntry) a0, .val TyEntry a1] = spec_PutEntry_P f0 f1 g1 f2 g2 f3 g3 (fun r0 r1 => some [⟨(.slice 32 TyEntry), r0⟩, ⟨.bool, r1⟩]) (fun v0_0 v0_1 v0_2 v0_3 v0_4 => L_P_spec_PutEntry_0 f0 f1 g1 f2 g2 f3 g3 n n (S_spec_PutEntry_0 v0_0 v0_1 v0_2 v0_3 v0_4)) a0 a1 := by kernel_rfl
theorem said_spec_PutEntry (a0 : (List TEntry)) (a1 : TEntry) (g : G.spec_PutEntry a0 a1 = true) : Said Try.prog sigs_7 7 [.val (.slice 32 TyEntry) a0, .val TyEntry a1] [⟨(.slice 32 TyEntry), (N.spec_PutEntry a0 a1).1⟩, ⟨.bool, (N.spec_PutEntry a0 a1).2⟩] := said_len (T := tab) (A := A_spec_PutEntry) tabOk ok_spec_PutEntry tabOk.follows Try.func7 (by kernel_rfl) (by kernel_rfl) (fun hl => let ⟨n, hn⟩ := spec_PutEntry_ok (ρ := Ret) (fun r0 r1 => some [⟨(.slice 32 TyEntry), r0⟩, ⟨.bool, r1⟩]) a0 a1 hl.1 hl.2.1 g; ⟨n, (aP_spec_PutEntry N.spec_CompareLabels N.spec_l8Copy G.spec_l8Copy N.spec_AreEntries G.spec_AreEntries N.spec_l9Copy G.spec_l9Copy n a0 a1).trans (hn n (Nat.le_refl n) (fun  m v0_0 v0_1 v0_2 v0_3 v0_4 => L_P_spec_PutEntry_0 N.spec_CompareLabels N.spec_l8Copy G.spec_l8Copy N.spec_AreEntries G.spec_AreEntries N.spec_l9Copy G.spec_l9Copy n  m (S_spec_PutEntry_0 v0_0 v0_1 v0_2 v0_3 v0_4)) (fun  m v0_0 v0_1 v0_2 v0_3 v0_4 => bP_spec_PutEntry_0 N.spec_CompareLabels N.spec_l8Copy G.spec_l8Copy N.spec_AreEntries G.spec_AreEntries N.spec_l9Copy G.spec_l9Copy n  m v0_0 v0_1 v0_2 v0_3 v0_4))⟩)
abbrev G.slices_Clone_string (a : List ByteArray) : Bool := decide (a.length ≤ 1048576)
abbrev N.slices_Clone_string (a : List ByteArray) : List ByteArray := a
noncomputable def slices_Clone_string {ρ : Type} (k : (List ByteArray) → Option ρ) (a0 : (List ByteArray)) : Option ρ := (cond (List.isEmpty a0) (both (k []) (cond (fit (List.length ([] : (List ByteArray))) (List.length a0)) (k (List.append ([] : (List ByteArray)) a0)) none)) (cond (fit (List.length ([] : (List ByteArray))) (List.length a0)) (k (List.append ([] : (List ByteArray)) a0)) none))
theorem slices_Clone_string_ok {ρ : Type} (k : (List ByteArray) → Option ρ) (a0 : (List ByteArray)) (l_a0 : lnL (fun _ => True) a0) (g : G.slices_Clone_string a0 = true) : slices_Clone_string k  a0 = k (N.slices_Clone_string a0) := by
  unfold G.slices_Clone_string at g
  have h1 : fit (List.length ([] : List ByteArray)) (List.length a0) = true := fit_of (by have := of_decide_eq_true g; simp; omega)
  unfold slices_Clone_string
  rw [h1]
  cases a0 with
  | nil => exact both_self _
  | cons x l => rfl
def O_slices_Clone_string : Orac := nilO
theorem ok_slices_Clone_string : OracOk Try.prog sigs O_slices_Clone_string := nilO_ok
def A_slices_Clone_string : Ann := fun b => ⟨[], []⟩
theorem a_slices_Clone_string (n : Nat) (a0 : (List ByteArray)) : absF tab sigs O_slices_Clone_string A_slices_Clone_string Try.f43 [((.slice 9 .str), (.own 0))] n [.val (.slice 9 .str) a0] = slices_Clone_string (fun r0 => some [⟨(.slice 9 .str), r0⟩])  a0 := by kernel_rfl
theorem said_slices_Clone_string (a0 : (List ByteArray)) (g : G.slices_Clone_string a0 = true) : Said Try.prog sigs_43 43 [.val (.slice 9 .str) a0] [⟨(.slice 9 .str), N.slices_Clone_string a0⟩] := said_len (T := tab) (A := A_slices_Clone_string) tabOk ok_slices_Clone_string tabOk.follows Try.func43 (by kernel_rfl) (by kernel_rfl) (fun hl => ⟨0, (a_slices_Clone_string 0 a0).trans (slices_Clone_string_ok (ρ := Ret) (fun r0 => some [⟨(.slice 9 .str), r0⟩]) a0 hl.1 g)⟩)
abbrev G.impl_copyEntry (e : TEntry) : Bool := decide (e.2.2.2.length ≤ 1048576)
abbrev N.impl_copyEntry (e : TEntry) : TEntry := e
def impl_copyEntry {ρ : Type} (k : TEntry → Option ρ) (a0 : TEntry) : Option ρ := (cond (G.slices_Clone_string a0.2.2.2) (k (a0.1, (a0.2.1, (a0.2.2.1, (N.slices_Clone_string a0.2.2.2))))) none)
theorem impl_copyEntry_ok {ρ : Type} (k : TEntry → Option ρ) (a0 : TEntry) (l_a0 : (True ∧ (True ∧ (True ∧ lnL (fun _ => True) a0.2.2.2)))) (g : G.impl_copyEntry a0 = true) : impl_copyEntry k  a0 = k (N.impl_copyEntry a0) := by
  unfold G.impl_copyEntry at g
  simp only [impl_copyEntry, G.slices_Clone_string, N.slices_Clone_string, g, cond_true]
def OP_impl_copyEntry (f0 : (List ByteArray) → (List ByteArray)) (g0 : (List ByteArray) → Bool) : Orac := (orcX 43 [.val (.slice 9 .str)] (fun d => g0 d.1) (fun d => [⟨(.slice 9 .str), f0 d.1⟩]) nilO)
def O_impl_copyEntry : Orac := OP_impl_copyEntry N.slices_Clone_string G.slices_Clone_string
def impl_copyEntry_P {ρ : Type} (f0 : (List ByteArray) → (List ByteArray)) (g0 : (List ByteArray) → Bool) (k : TEntry → Option ρ) (a0 : TEntry) : Option ρ := (cond (g0 a0.2.2.2) (k (a0.1, (a0.2.1, (a0.2.2.1, (f0 a0.2.2.2))))) none)
theorem ok_impl_copyEntry : OracOk Try.prog sigs O_impl_copyEntry := (orcX_ok rfl rfl (fun d g => said_slices_Clone_string d.1 g) nilO_ok)
def A_impl_copyEntry : Ann := fun b => ⟨[], []⟩
theorem aP_impl_copyEntry (f0 : (List ByteArray) → (List ByteArray)) (g0 : (List ByteArray) → Bool) (n : Nat) (a0 : TEntry) : absF tab sigs (OP_impl_copyEntry f0 g0) A_impl_copyEntry Try.f32 [(TyEntry, (.pair .no (.pair .no (.pair .no (.own 0)))))] n [.val TyEntry a0] = impl_copyEntry_P f0 g0 (fun r0 => some [⟨TyEntry, r0⟩])  a0 := by kernel_rfl
theorem said_impl_copyEntry (a0 : TEntry) (g : G.impl_copyEntry a0 = true) : Said Try.prog sigs_32 32 [.val TyEntry a0] [⟨TyEntry, N.impl_copyEntry a0⟩] := said_len (T := tab) (A := A_impl_copyEntry) tabOk ok_impl_copyEntry tabOk.follows Try.func32 (by kernel_rfl) (by kernel_rfl) (fun hl => ⟨0, (aP_impl_copyEntry N.slices_Clone_string G.slices_Clone_string 0 a0).trans (impl_copyEntry_ok (ρ := Ret) (fun r0 => some [⟨TyEntry, r0⟩]) a0 hl.1 g)⟩)
abbrev G.impl_copyEntries (l : List TEntry) : Bool := decide (wEs l ≤ 1048576)
abbrev N.impl_copyEntries (l : List TEntry) : List TEntry := l
def impl_copyEntries_P_L0 {ρ : Type} (f0 : TEntry → TEntry) (g0 : TEntry → Bool) (k : (List TEntry) → Option ρ) (L0 : (List TEntry) → Int → Int → (List TEntry) → Option ρ) (v0_0 : (List TEntry)) (v0_1 : Int) (v0_2 : Int) (v0_3 : (List TEntry)) : Option ρ := (cond (decide (v0_2 < v0_1)) (cond (inRange v0_2 (List.length v0_0)) (cond (g0 (List.getD v0_0 (Int.toNat v0_2) (ByteArray.empty, ((0 : Int), ((0 : Int), []))))) (cond (fit (List.length v0_3) (List.length [(f0 (List.getD v0_0 (Int.toNat v0_2) (ByteArray.empty, ((0 : Int), ((0 : Int), [])))))])) (L0 v0_0 v0_1 (IntKind.wrap .i64 (v0_2 + (1 : Int))) (List.append v0_3 [(f0 (List.getD v0_0 (Int.toNat v0_2) (ByteArray.empty, ((0 : Int), ((0 : Int), [])))))])) none) none) none) (k v0_3))
def impl_copyEntries_P {ρ : Type} (f0 : TEntry → TEntry) (g0 : TEntry → Bool) (k : (List TEntry) → Option ρ) (L0 : (List TEntry) → Int → Int → (List TEntry) → Option ρ) (a0 : (List TEntry)) : Option ρ := (L0 a0 (List.length a0 : Int) (0 : Int) ([] : (List (ByteArray × (Int × (Int × (List ByteArray)))))))
def impl_copyEntries_L0 {ρ : Type} (k : (List TEntry) → Option ρ) (L0 : (List TEntry) → Int → Int → (List TEntry) → Option ρ) (v0_0 : (List TEntry)) (v0_1 : Int) (v0_2 : Int) (v0_3 : (List TEntry)) : Option ρ := impl_copyEntries_P_L0 N.impl_copyEntry G.impl_copyEntry k L0 v0_0 v0_1 v0_2 v0_3
def impl_copyEntries {ρ : Type} (k : (List TEntry) → Option ρ) (L0 : (List TEntry) → Int → Int → (List TEntry) → Option ρ) (a0 : (List TEntry)) : Option ρ := impl_copyEntries_P N.impl_copyEntry G.impl_copyEntry k L0 a0
theorem impl_copyEntries_ok {ρ : Type} (k : (List TEntry) → Option ρ) (a0 : (List TEntry)) (l_a0 : lnL (fun y => (True ∧ (True ∧ (True ∧ lnL (fun _ => True) y.2.2.2)))) a0) (g : G.impl_copyEntries a0 = true) : ∃ n0, ∀ n, n0 ≤ n → ∀ (L0 : Nat → (List TEntry) → Int → Int → (List TEntry) → Option ρ) (h0 : ∀ ( m : Nat) (v0_0 : (List TEntry)) (v0_1 : Int) (v0_2 : Int) (v0_3 : (List TEntry)), L0 (m + 1) v0_0 v0_1 v0_2 v0_3 = impl_copyEntries_L0 k (L0 m) v0_0 v0_1 v0_2 v0_3), impl_copyEntries k (L0 n) a0 = k (N.impl_copyEntries a0) := by
  unfold G.impl_copyEntries at g
  have hw : wEs a0 ≤ 1048576 := of_decide_eq_true g
  have hl := wEs_ge a0
  refine ⟨a0.length + 1, fun n hn L0 h0 => ?_⟩
  have go : ∀ (d n j : Nat), d + j = a0.length → d < n → L0 n a0 (a0.length : Int) (j : Int) (a0.take j) = k a0 := by
    intro d
    induction d with
    | zero =>
      intro n j hd hn
      obtain ⟨m, rfl⟩ : ∃ m, n = m + 1 := ⟨n - 1, by omega⟩
      have e1 : decide ((j : Int) < (a0.length : Int)) = false := decide_eq_false (by omega)
      rw [h0]
      simp only [impl_copyEntries_L0, impl_copyEntries_P_L0, e1, cond_false]
      rw [List.take_of_length_le (by omega)]
    | succ d ih =>
      intro n j hd hn
      obtain ⟨m, rfl⟩ : ∃ m, n = m + 1 := ⟨n - 1, by omega⟩
      have hj : j < a0.length := by omega
      have hm := wEs_mem (getD_mem (d := (ByteArray.empty, (0, (0, [])))) hj)
      have g2 : decide ((a0.getD j (ByteArray.empty, (0, (0, [])))).2.2.2.length ≤ 1048576) = true := decide_eq_true (by
        have h1 := wP_ge (a0.getD j (ByteArray.empty, (0, (0, [])))).2.2.2
        unfold wE at hm
        omega)
      have hf : ∀ x : TEntry, fit (List.length (a0.take j)) (List.length [x]) = true := fun x => fit_of (by simp; omega)
      have ht : (a0.take j).append [a0.getD j (ByteArray.empty, (0, (0, [])))] = a0.take (j + 1) := by
        show a0.take j ++ [_] = _
        rw [List.getD_eq_getElem?_getD, List.getElem?_eq_getElem hj, List.take_succ_eq_append_getElem hj]
        rfl
      rw [h0]
      simp only [impl_copyEntries_L0, impl_copyEntries_P_L0, lt_nat, inRange_nat, decide_eq_true hj, cond_true, Int.toNat_natCast, G.impl_copyEntry, N.impl_copyEntry, g2, hf, wrap_succ (j := j) (by unfold big; omega), ht]
      exact ih m (j + 1) (by omega) (by omega)
  exact go a0.length n 0 (by omega) (by omega)
def OP_impl_copyEntries (f0 : TEntry → TEntry) (g0 : TEntry → Bool) : Orac := (orcX 32 [.val TyEntry] (fun d => g0 d.1) (fun d => [⟨TyEntry, f0 d.1⟩]) nilO)
def O_impl_copyEntries : Orac := OP_impl_copyEntries N.impl_copyEntry G.impl_copyEntry
theorem ok_impl_copyEntries : OracOk Try.prog sigs O_impl_copyEntries := (orcX_ok rfl rfl (fun d g => said_impl_copyEntry d.1 g) nilO_ok)
def A_impl_copyEntries : Ann := fun b => cond (Nat.beq b 0) ⟨[(3, true), (7, false), (8, false), (9, false)], []⟩ (⟨[], []⟩)
def S_impl_copyEntries_0 (v0_0 : (List TEntry)) (v0_1 : Int) (v0_2 : Int) (v0_3 : (List TEntry)) : St := [(kT 3, some (.tv (.v (.slice 32 TyEntry) [] (.own 24)))), (kT 7, some (.tv (.v (.slice 32 TyEntry) v0_0 .no))), (kT 8, some (.tv (.v (.int .i64) v0_1 .no))), (kT 9, some (.tv (.v (.int .i64) v0_2 .no))), (kR 24, some (.row 32 TyEntry v0_3))]
noncomputable def L_P_impl_copyEntries_0 (f0 : TEntry → TEntry) (g0 : TEntry → Bool) (n m : Nat) : St → Option Ret := loopOf tab sigs (OP_impl_copyEntries f0 g0) A_impl_copyEntries Try.f27 [((.slice 32 TyEntry), (.own 0))] n (fun _ => 0) 0 m
theorem bP_impl_copyEntries_0 (f0 : TEntry → TEntry) (g0 : TEntry → Bool) (n m : Nat) (v0_0 : (List TEntry)) (v0_1 : Int) (v0_2 : Int) (v0_3 : (List TEntry)) : L_P_impl_copyEntries_0 f0 g0 n (m + 1) (S_impl_copyEntries_0 v0_0 v0_1 v0_2 v0_3) = impl_copyEntries_P_L0 f0 g0 (fun r0 => some [⟨(.slice 32 TyEntry), r0⟩]) (fun v0_0 v0_1 v0_2 v0_3 => L_P_impl_copyEntries_0 f0 g0 n m (S_impl_copyEntries_0 v0_0 v0_1 v0_2 v0_3)) v0_0 v0_1 v0_2 v0_3 := by kernel_rfl
theorem aP_impl_copyEntries (f0 : TEntry → TEntry) (g0 : TEntry → Bool) (n : Nat) (a0 : (List TEntry)) : absF tab sigs (OP_impl_copyEntries f0 g0) A_impl_copyEntries Try.f27 [((.slice 32 TyEntry), (.own 0))] n [.val (.slice 32 TyEntry) a0] = impl_copyEntries_P f0 g0 (fun r0 => some [⟨(.slice 32 TyEntry), r0⟩]) (fun v0_0 v0_1 v0_2 v0_3 => L_P_impl_copyEntries_0 f0 g0 n n (S_impl_copyEntries_0 v0_0 v0_1 v0_2 v0_3)) a0 := by kernel_rfl
theorem said_impl_copyEntries (a0 : (List TEntry)) (g : G.impl_copyEntries a0 = true) : Said Try.prog sigs_27 27 [.val (.slice 32 TyEntry) a0] [⟨(.slice 32 TyEntry), N.impl_copyEntries a0⟩] := said_len (T := tab) (A := A_impl_copyEntries) tabOk ok_impl_copyEntries tabOk.follows Try.func27 (by kernel_rfl) (by kernel_rfl) (fun hl => let ⟨n, hn⟩ := impl_copyEntries_ok (ρ := Ret) (fun r0 => some [⟨(.slice 32 TyEntry), r0⟩]) a0 hl.1 g; ⟨n, (aP_impl_copyEntries N.impl_copyEntry G.impl_copyEntry n a0).trans (hn n (Nat.le_refl n) (fun  m v0_0 v0_1 v0_2 v0_3 => L_P_impl_copyEntries_0 N.impl_copyEntry G.impl_copyEntry n  m (S_impl_copyEntries_0 v0_0 v0_1 v0_2 v0_3)) (fun  m v0_0 v0_1 v0_2 v0_3 => bP_impl_copyEntries_0 N.impl_copyEntry G.impl_copyEntry n  m v0_0 v0_1 v0_2 v0_3))⟩)
abbrev N.impl_InRange (n lo hi : Int) : Bool := inR n lo hi
def impl_InRange {ρ : Type} (k : Bool → Option ρ) (a0 : Int) (a1 : Int) (a2 : Int) : Option ρ := (cond (decide (a1 ≤ a0)) (k (decide (a0 ≤ a2))) (k false))
theorem impl_InRange_ok {ρ : Type} (k : Bool → Option ρ) (a0 : Int) (a1 : Int) (a2 : Int) : impl_InRange k  a0 a1 a2 = k (N.impl_InRange a0 a1 a2) := by
  simp only [impl_InRange, inR]
  cases decide (a1 ≤ a0) <;> rfl
def O_impl_InRange : Orac := nilO
theorem ok_impl_InRange : OracOk Try.prog sigs O_impl_InRange := nilO_ok
def A_impl_InRange : Ann := fun b => ⟨[], []⟩
theorem a_impl_InRange (n : Nat) (a0 : Int) (a1 : Int) (a2 : Int) : absF tab sigs O_impl_InRange A_impl_InRange Try.f52 [(.bool, .no)] n [.val (.int .i64) a0, .val (.int .i64) a1, .val (.int .i64) a2] = impl_InRange (fun r0 => some [⟨.bool, r0⟩])  a0 a1 a2 := by kernel_rfl
theorem said_impl_InRange (a0 : Int) (a1 : Int) (a2 : Int) : Said Try.prog sigs_52 52 [.val (.int .i64) a0, .val (.int .i64) a1, .val (.int .i64) a2] [⟨.bool, N.impl_InRange a0 a1 a2⟩] := said_len (T := tab) (A := A_impl_InRange) tabOk ok_impl_InRange tabOk.follows Try.func52 (by kernel_rfl) (by kernel_rfl) (fun hl => ⟨0, (a_impl_InRange 0 a0 a1 a2).trans (impl_InRange_ok (ρ := Ret) (fun r0 => some [⟨.bool, r0⟩]) a0 a1 a2)⟩)
abbrev G.impl_IsLabel (s : ByteArray) : Bool := decide (s.size ≤ 1048576)
abbrev N.impl_IsLabel (s : ByteArray) : Bool := isLabel s
def impl_IsLabel_P_L0 {ρ : Type} (f0 : Int → Int → Int → Bool) (k : Bool → Option ρ) (L0 : ByteArray → Int → Int → Option ρ) (v0_0 : ByteArray) (v0_1 : Int) (v0_2 : Int) : Option ρ := (cond (decide (v0_2 < v0_1)) (cond (inRange v0_2 (ByteArray.size v0_0)) (cond (decide ((bt v0_0 v0_2) ≥ (97 : Int))) (cond (decide ((bt v0_0 v0_2) ≤ (122 : Int))) (L0 v0_0 v0_1 (IntKind.wrap .i64 (v0_2 + (1 : Int)))) (cond (decide ((bt v0_0 v0_2) ≥ (48 : Int))) (cond (decide ((bt v0_0 v0_2) ≤ (57 : Int))) (L0 v0_0 v0_1 (IntKind.wrap .i64 (v0_2 + (1 : Int)))) (cond ((bt v0_0 v0_2) == (45 : Int)) (cond (decide (v0_2 > (0 : Int))) (cond (!(decide (v0_2 < (IntKind.wrap .i64 ((ByteArray.size v0_0 : Int) - (1 : Int)))))) (k false) (L0 v0_0 v0_1 (IntKind.wrap .i64 (v0_2 + (1 : Int))))) (k false)) (k false))) (cond ((bt v0_0 v0_2) == (45 : Int)) (cond (decide (v0_2 > (0 : Int))) (cond (!(decide (v0_2 < (IntKind.wrap .i64 ((ByteArray.size v0_0 : Int) - (1 : Int)))))) (k false) (L0 v0_0 v0_1 (IntKind.wrap .i64 (v0_2 + (1 : Int))))) (k false)) (k false)))) (cond (decide ((bt v0_0 v0_2) ≥ (48 : Int))) (cond (decide ((bt v0_0 v0_2) ≤ (57 : Int))) (L0 v0_0 v0_1 (IntKind.wrap .i64 (v0_2 + (1 : Int)))) (cond ((bt v0_0 v0_2) == (45 : Int)) (cond (decide (v0_2 > (0 : Int))) (cond (!(decide (v0_2 < (IntKind.wrap .i64 ((ByteArray.size v0_0 : Int) - (1 : Int)))))) (k false) (L0 v0_0 v0_1 (IntKind.wrap .i64 (v0_2 + (1 : Int))))) (k false)) (k false))) (cond ((bt v0_0 v0_2) == (45 : Int)) (cond (decide (v0_2 > (0 : Int))) (cond (!(decide (v0_2 < (IntKind.wrap .i64 ((ByteArray.size v0_0 : Int) - (1 : Int)))))) (k false) (L0 v0_0 v0_1 (IntKind.wrap .i64 (v0_2 + (1 : Int))))) (k false)) (k false)))) none) (k (f0 (ByteArray.size v0_0 : Int) (1 : Int) (8 : Int))))
def impl_IsLabel_P {ρ : Type} (f0 : Int → Int → Int → Bool) (k : Bool → Option ρ) (L0 : ByteArray → Int → Int → Option ρ) (a0 : ByteArray) : Option ρ := (L0 a0 (ByteArray.size a0 : Int) (0 : Int))
def impl_IsLabel_L0 {ρ : Type} (k : Bool → Option ρ) (L0 : ByteArray → Int → Int → Option ρ) (v0_0 : ByteArray) (v0_1 : Int) (v0_2 : Int) : Option ρ := impl_IsLabel_P_L0 N.impl_InRange k L0 v0_0 v0_1 v0_2
def impl_IsLabel {ρ : Type} (k : Bool → Option ρ) (L0 : ByteArray → Int → Int → Option ρ) (a0 : ByteArray) : Option ρ := impl_IsLabel_P N.impl_InRange k L0 a0
theorem impl_IsLabel_ok {ρ : Type} (k : Bool → Option ρ) (a0 : ByteArray) (g : G.impl_IsLabel a0 = true) : ∃ n0, ∀ n, n0 ≤ n → ∀ (L0 : Nat → ByteArray → Int → Int → Option ρ) (h0 : ∀ ( m : Nat) (v0_0 : ByteArray) (v0_1 : Int) (v0_2 : Int), L0 (m + 1) v0_0 v0_1 v0_2 = impl_IsLabel_L0 k (L0 m) v0_0 v0_1 v0_2), impl_IsLabel k (L0 n) a0 = k (N.impl_IsLabel a0) := by
  unfold G.impl_IsLabel at g
  have hlen : a0.size ≤ 1048576 := of_decide_eq_true g
  refine ⟨a0.size + 1, fun n hn L0 h0 => ?_⟩
  show L0 n a0 (a0.size : Int) 0 = k (isLabel a0)
  have hrun := raw_run0 (σ := Unit) (s := ()) (L := fun m i _ => L0 m a0 (a0.size : Int) i) (R := fun i _ c => impl_IsLabel_L0 k (fun _ _ i => c i ()) a0 (a0.size : Int) i) (fun m i s => h0 m a0 (a0.size : Int) i) a0.size (fun _ _ => True) (fun j _ => cond (labelBytes a0 (a0.size - j) j) (k (inR (a0.size : Int) 1 8)) (k false)) (fun j s c hj _ hc => ?_) (fun s c _ => ?_) hn trivial
  · refine hrun.trans ?_
    unfold isLabel
    rw [Nat.sub_zero]
    cases labelBytes a0 a0.size 0 <;> cases inR (a0.size : Int) 1 8 <;> rfl
  · obtain ⟨m, hm⟩ : ∃ m, a0.size - j = m + 1 := ⟨a0.size - j - 1, by omega⟩
    have hm2 : a0.size - (j + 1) = m := by omega
    have hc' := hc () trivial
    rw [hm2] at hc'
    have e1 : decide ((j : Int) < IntKind.wrap .i64 ((a0.size : Int) - 1)) = decide (j + 1 < a0.size) := by rw [wrap_id (by omega) (by omega)]; simp only [decide_eq_decide]; omega
    have e2 : decide ((j : Int) > 0) = decide (0 < j) := by simp only [decide_eq_decide]; omega
    rw [hm]
    unfold labelBytes okByte isLetter
    simp only [impl_IsLabel_L0, impl_IsLabel_P_L0, lt_nat, inRange_nat, decide_eq_true hj, cond_true, wrap_succ (j := j) (by unfold big; omega), hc', e1, e2, ge_iff_le, N.impl_InRange]
    generalize bt a0 (j : Int) = b
    cases decide (97 ≤ b) <;> cases decide (b ≤ 122) <;> cases decide (48 ≤ b) <;> cases decide (b ≤ 57) <;> cases b == 45 <;> cases decide (0 < j) <;> cases decide (j + 1 < a0.size) <;> rfl
  · rw [Nat.sub_self]
    simp [impl_IsLabel_L0, impl_IsLabel_P_L0, labelBytes]
def OP_impl_IsLabel (f0 : Int → Int → Int → Bool) : Orac := (orcX 52 [.val (.int .i64), .val (.int .i64), .val (.int .i64)] (fun d => true) (fun d => [⟨.bool, f0 d.1 d.2.1 d.2.2.1⟩]) nilO)
def O_impl_IsLabel : Orac := OP_impl_IsLabel N.impl_InRange
theorem ok_impl_IsLabel : OracOk Try.prog sigs O_impl_IsLabel := (orcX_ok rfl rfl (fun d g => said_impl_InRange d.1 d.2.1 d.2.2.1) nilO_ok)
def A_impl_IsLabel : Ann := fun b => cond (Nat.beq b 0) ⟨[(0, false), (6, false), (7, false)], []⟩ (⟨[], []⟩)
def S_impl_IsLabel_0 (v0_0 : ByteArray) (v0_1 : Int) (v0_2 : Int) : St := [(kT 0, some (.tv (.v .str v0_0 .no))), (kT 6, some (.tv (.v (.int .i64) v0_1 .no))), (kT 7, some (.tv (.v (.int .i64) v0_2 .no)))]
noncomputable def L_P_impl_IsLabel_0 (f0 : Int → Int → Int → Bool) (n m : Nat) : St → Option Ret := loopOf tab sigs (OP_impl_IsLabel f0) A_impl_IsLabel Try.f48 [(.bool, .no)] n (fun _ => 0) 0 m
theorem bP_impl_IsLabel_0 (f0 : Int → Int → Int → Bool) (n m : Nat) (v0_0 : ByteArray) (v0_1 : Int) (v0_2 : Int) : L_P_impl_IsLabel_0 f0 n (m + 1) (S_impl_IsLabel_0 v0_0 v0_1 v0_2) = impl_IsLabel_P_L0 f0 (fun r0 => some [⟨.bool, r0⟩]) (fun v0_0 v0_1 v0_2 => L_P_impl_IsLabel_0 f0 n m (S_impl_IsLabel_0 v0_0 v0_1 v0_2)) v0_0 v0_1 v0_2 := by kernel_rfl
theorem aP_impl_IsLabel (f0 : Int → Int → Int → Bool) (n : Nat) (a0 : ByteArray) : absF tab sigs (OP_impl_IsLabel f0) A_impl_IsLabel Try.f48 [(.bool, .no)] n [.val .str a0] = impl_IsLabel_P f0 (fun r0 => some [⟨.bool, r0⟩]) (fun v0_0 v0_1 v0_2 => L_P_impl_IsLabel_0 f0 n n (S_impl_IsLabel_0 v0_0 v0_1 v0_2)) a0 := by kernel_rfl
theorem said_impl_IsLabel (a0 : ByteArray) (g : G.impl_IsLabel a0 = true) : Said Try.prog sigs_48 48 [.val .str a0] [⟨.bool, N.impl_IsLabel a0⟩] := said_len (T := tab) (A := A_impl_IsLabel) tabOk ok_impl_IsLabel tabOk.follows Try.func48 (by kernel_rfl) (by kernel_rfl) (fun hl => let ⟨n, hn⟩ := impl_IsLabel_ok (ρ := Ret) (fun r0 => some [⟨.bool, r0⟩]) a0 g; ⟨n, (aP_impl_IsLabel N.impl_InRange n a0).trans (hn n (Nat.le_refl n) (fun  m v0_0 v0_1 v0_2 => L_P_impl_IsLabel_0 N.impl_InRange n  m (S_impl_IsLabel_0 v0_0 v0_1 v0_2)) (fun  m v0_0 v0_1 v0_2 => bP_impl_IsLabel_0 N.impl_InRange n  m v0_0 v0_1 v0_2))⟩)
end Go.Proofs.Ytcmjbplnjjdcdaa.Ref
