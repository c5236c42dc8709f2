/- Functions of the program: what each computes, and that it does so.
   Conditions: as each theorem states. -/
import Derived.Test.YtmhhbnonbnkhbaaGreatSB0
set_option linter.unusedVariables false
set_option linter.unusedSimpArgs false
set_option maxRecDepth 100000
namespace Go.Proofs.YtmhhbnonbnkhbaaGreat.Ref
open Go.RowKit Go.Proofs.YtmhhbnonbnkhbaaGreatW.PrintWords Go.Proofs.YtmhhbnonbnkhbaaGreatW.PrintLast
abbrev G.spec_PutEntry (l : List TEntry) (e : TEntry) : Bool := decide (wEs l + wE e + 1 ≤ 1048576)
abbrev N.spec_PutEntry (l : List TEntry) (e : TEntry) : List TEntry × Bool := putE l e
def spec_PutEntry_P_L0 {ρ : Type} (f_spec_CompareLabels : ByteArray → ByteArray → Int) (f_spec_l8Copy : TEntry → TEntry) (g_spec_l8Copy : TEntry → Bool) (f_spec_AreEntries : (List TEntry) → Bool) (g_spec_AreEntries : (List TEntry) → Bool) (f_spec_l9Copy : (List TEntry) → (List TEntry)) (g_spec_l9Copy : (List TEntry) → Bool) (k : (List TEntry) → Bool → Option ρ) (L0 : (List TEntry) → Bool → Int → TEntry → (List TEntry) → Option ρ) (v0_0 : (List TEntry)) (v0_1 : Bool) (v0_2 : Int) (v0_3 : TEntry) (v0_4 : (List TEntry)) : Option ρ := (cond (decide (v0_2 < (List.length v0_0 : Int))) (cond (inRange v0_2 (List.length v0_0)) (cond (decide ((f_spec_CompareLabels (List.getD v0_0 (Int.toNat v0_2) (ByteArray.empty, ((0 : Int), ((0 : Int), [])))).1 v0_3.1) ≥ (0 : Int))) (cond (!v0_1) (cond (g_spec_l8Copy v0_3) (cond (fit (List.length v0_4) (List.length [(f_spec_l8Copy v0_3)])) (cond ((f_spec_CompareLabels (List.getD v0_0 (Int.toNat v0_2) (ByteArray.empty, ((0 : Int), ((0 : Int), [])))).1 v0_3.1) != (0 : Int)) (cond (inRange v0_2 (List.length v0_0)) (cond (g_spec_l8Copy (List.getD v0_0 (Int.toNat v0_2) (ByteArray.empty, ((0 : Int), ((0 : Int), []))))) (cond (fit (List.length (List.append v0_4 [(f_spec_l8Copy v0_3)])) (List.length [(f_spec_l8Copy (List.getD v0_0 (Int.toNat v0_2) (ByteArray.empty, ((0 : Int), ((0 : Int), [])))))])) (L0 v0_0 true (IntKind.wrap .i64 (v0_2 + (1 : Int))) v0_3 (List.append (List.append v0_4 [(f_spec_l8Copy v0_3)]) [(f_spec_l8Copy (List.getD v0_0 (Int.toNat v0_2) (ByteArray.empty, ((0 : Int), ((0 : Int), [])))))])) none) none) none) (L0 v0_0 true (IntKind.wrap .i64 (v0_2 + (1 : Int))) v0_3 (List.append v0_4 [(f_spec_l8Copy v0_3)]))) none) none) (cond ((f_spec_CompareLabels (List.getD v0_0 (Int.toNat v0_2) (ByteArray.empty, ((0 : Int), ((0 : Int), [])))).1 v0_3.1) != (0 : Int)) (cond (inRange v0_2 (List.length v0_0)) (cond (g_spec_l8Copy (List.getD v0_0 (Int.toNat v0_2) (ByteArray.empty, ((0 : Int), ((0 : Int), []))))) (cond (fit (List.length v0_4) (List.length [(f_spec_l8Copy (List.getD v0_0 (Int.toNat v0_2) (ByteArray.empty, ((0 : Int), ((0 : Int), [])))))])) (L0 v0_0 v0_1 (IntKind.wrap .i64 (v0_2 + (1 : Int))) v0_3 (List.append v0_4 [(f_spec_l8Copy (List.getD v0_0 (Int.toNat v0_2) (ByteArray.empty, ((0 : Int), ((0 : Int), [])))))])) none) none) none) (L0 v0_0 v0_1 (IntKind.wrap .i64 (v0_2 + (1 : Int))) v0_3 v0_4))) (cond ((f_spec_CompareLabels (List.getD v0_0 (Int.toNat v0_2) (ByteArray.empty, ((0 : Int), ((0 : Int), [])))).1 v0_3.1) != (0 : Int)) (cond (inRange v0_2 (List.length v0_0)) (cond (g_spec_l8Copy (List.getD v0_0 (Int.toNat v0_2) (ByteArray.empty, ((0 : Int), ((0 : Int), []))))) (cond (fit (List.length v0_4) (List.length [(f_spec_l8Copy (List.getD v0_0 (Int.toNat v0_2) (ByteArray.empty, ((0 : Int), ((0 : Int), [])))))])) (L0 v0_0 v0_1 (IntKind.wrap .i64 (v0_2 + (1 : Int))) v0_3 (List.append v0_4 [(f_spec_l8Copy (List.getD v0_0 (Int.toNat v0_2) (ByteArray.empty, ((0 : Int), ((0 : Int), [])))))])) none) none) none) (L0 v0_0 v0_1 (IntKind.wrap .i64 (v0_2 + (1 : Int))) v0_3 v0_4))) none) (cond (!v0_1) (cond (g_spec_l8Copy v0_3) (cond (fit (List.length v0_4) (List.length [(f_spec_l8Copy v0_3)])) (cond (g_spec_AreEntries v0_0) (cond (!(f_spec_AreEntries v0_0)) (cond (g_spec_l9Copy v0_0) (k (f_spec_l9Copy v0_0) false) none) (cond (g_spec_AreEntries (List.append v0_4 [(f_spec_l8Copy v0_3)])) (cond (!(f_spec_AreEntries (List.append v0_4 [(f_spec_l8Copy v0_3)]))) (cond (g_spec_l9Copy v0_0) (k (f_spec_l9Copy v0_0) false) none) (k (List.append v0_4 [(f_spec_l8Copy v0_3)]) true)) none)) none) none) none) (cond (g_spec_AreEntries v0_0) (cond (!(f_spec_AreEntries v0_0)) (cond (g_spec_l9Copy v0_0) (k (f_spec_l9Copy v0_0) false) none) (cond (g_spec_AreEntries v0_4) (cond (!(f_spec_AreEntries v0_4)) (cond (g_spec_l9Copy v0_0) (k (f_spec_l9Copy v0_0) false) none) (k v0_4 true)) none)) none)))
def spec_PutEntry_P {ρ : Type} (f_spec_CompareLabels : ByteArray → ByteArray → Int) (f_spec_l8Copy : TEntry → TEntry) (g_spec_l8Copy : TEntry → Bool) (f_spec_AreEntries : (List TEntry) → Bool) (g_spec_AreEntries : (List TEntry) → Bool) (f_spec_l9Copy : (List TEntry) → (List TEntry)) (g_spec_l9Copy : (List TEntry) → Bool) (k : (List TEntry) → Bool → Option ρ) (L0 : (List TEntry) → Bool → Int → TEntry → (List TEntry) → Option ρ) (a0 : (List TEntry)) (a1 : TEntry) : Option ρ := (L0 a0 false (0 : Int) a1 ([] : (List (ByteArray × (Int × (Int × (List ByteArray)))))))
def spec_PutEntry_L0 {ρ : Type} (k : (List TEntry) → Bool → Option ρ) (L0 : (List TEntry) → Bool → Int → TEntry → (List TEntry) → Option ρ) (v0_0 : (List TEntry)) (v0_1 : Bool) (v0_2 : Int) (v0_3 : TEntry) (v0_4 : (List TEntry)) : Option ρ := spec_PutEntry_P_L0 N.spec_CompareLabels N.spec_l8Copy G.spec_l8Copy N.spec_AreEntries G.spec_AreEntries N.spec_l9Copy G.spec_l9Copy k L0 v0_0 v0_1 v0_2 v0_3 v0_4
def spec_PutEntry {ρ : Type} (k : (List TEntry) → Bool → Option ρ) (L0 : (List TEntry) → Bool → Int → TEntry → (List TEntry) → Option ρ) (a0 : (List TEntry)) (a1 : TEntry) : Option ρ := spec_PutEntry_P N.spec_CompareLabels N.spec_l8Copy G.spec_l8Copy N.spec_AreEntries G.spec_AreEntries N.spec_l9Copy G.spec_l9Copy k L0 a0 a1
theorem spec_PutEntry_ok {ρ : Type} (k : (List TEntry) → Bool → Option ρ) (a0 : (List TEntry)) (a1 : TEntry) (l_a0 : lnL (fun y => (True ∧ (True ∧ (True ∧ lnL (fun _ => True) y.2.2.2)))) a0) (l_a1 : (True ∧ (True ∧ (True ∧ lnL (fun _ => True) a1.2.2.2)))) (g : G.spec_PutEntry a0 a1 = true) : ∃ n0, ∀ n, n0 ≤ n → ∀ (L0 : Nat → (List TEntry) → Bool → Int → TEntry → (List TEntry) → Option ρ) (h0 : ∀ ( m : Nat) (v0_0 : (List TEntry)) (v0_1 : Bool) (v0_2 : Int) (v0_3 : TEntry) (v0_4 : (List TEntry)), L0 (m + 1) v0_0 v0_1 v0_2 v0_3 v0_4 = spec_PutEntry_L0 k (L0 m) v0_0 v0_1 v0_2 v0_3 v0_4), spec_PutEntry k (L0 n) a0 a1 = k (N.spec_PutEntry a0 a1).1 (N.spec_PutEntry a0 a1).2 := by
  unfold G.spec_PutEntry at g
  have hw : wEs a0 + wE a1 + 1 ≤ 1048576 := of_decide_eq_true g
  have hl := wEs_ge a0
  have g1 : decide (wEs a0 ≤ 1048576) = true := decide_eq_true (by omega)
  have g3 : decide (a1.2.2.2.length ≤ 1048576) = true := decide_eq_true (by
    have := wP_ge a1.2.2.2
    unfold wE at hw
    omega)
  refine ⟨a0.length + 1, fun n hn L0 h0 => ?_⟩
  have go : ∀ (d n j : Nat) (s : Bool × List TEntry), d + j = a0.length → d < n → wEs s.2 + putW a1 s.1 + wEs (a0.drop j) ≤ 1048576 →
      L0 n a0 s.1 (j : Int) a1 s.2 = k (putFin a0 a1 (putGo a1 (a0.drop j) s)).1 (putFin a0 a1 (putGo a1 (a0.drop j) s)).2 := by
    intro d
    induction d with
    | zero =>
      intro n j s hd hn hs
      obtain ⟨m, rfl⟩ : ∃ m, n = m + 1 := ⟨n - 1, by omega⟩
      have e1 : decide ((j : Int) < (a0.length : Int)) = false := decide_eq_false (by omega)
      have hlo := wEs_ge s.2
      have g2 : decide (wEs (putOut a1 s) ≤ 1048576) = true := decide_eq_true (by rw [putOut_w]; omega)
      rw [h0, List.drop_eq_nil_of_le (by omega)]
      show _ = k (putFin a0 a1 s).1 (putFin a0 a1 s).2
      obtain ⟨b, o⟩ := s
      have hf : fit (List.length o) (List.length [a1]) = true := fit_of (by have hlo : o.length ≤ wEs o := hlo; have hs : wEs o + putW a1 b + wEs (a0.drop j) ≤ 1048576 := hs; simp; omega)
      simp only [spec_PutEntry_L0, spec_PutEntry_P_L0, e1, G.spec_l8Copy, N.spec_l8Copy, G.spec_AreEntries, N.spec_AreEntries, G.spec_l9Copy, N.spec_l9Copy, g1, g3, hf, cond_true, cond_false]
      unfold putFin
      cases b with
      | true =>
        have g2 : decide (wEs o ≤ 1048576) = true := g2
        simp only [g2, Bool.not_true, cond_false, cond_true]
        show cond (!(areEntries a0)) (k a0 false) (cond (!(areEntries o)) (k a0 false) (k o true)) = k (cond (!(areEntries a0)) (a0, false) (cond (!(areEntries o)) (a0, false) (o, true))).1 (cond (!(areEntries a0)) (a0, false) (cond (!(areEntries o)) (a0, false) (o, true))).2
        cases (!(areEntries a0)) <;> cases (!(areEntries o)) <;> rfl
      | false =>
        have g2 : decide (wEs (o.append [a1]) ≤ 1048576) = true := g2
        simp only [g2, Bool.not_false, cond_true]
        show cond (!(areEntries a0)) (k a0 false) (cond (!(areEntries (o.append [a1]))) (k a0 false) (k (o.append [a1]) true)) = k (cond (!(areEntries a0)) (a0, false) (cond (!(areEntries (o.append [a1]))) (a0, false) (o.append [a1], true))).1 (cond (!(areEntries a0)) (a0, false) (cond (!(areEntries (o.append [a1]))) (a0, false) (o.append [a1], true))).2
        cases (!(areEntries a0)) <;> cases (!(areEntries (o.append [a1]))) <;> rfl
    | succ d ih =>
      intro n j s hd hn hs
      obtain ⟨m, rfl⟩ : ∃ m, n = m + 1 := ⟨n - 1, by omega⟩
      have hj : j < a0.length := by omega
      rw [drop_cons (ByteArray.empty, (0, (0, []))) hj] at hs ⊢
      rw [wEs_cons] at hs
      have hw1 := putStep_w a1 (a0.getD j (ByteArray.empty, (0, (0, [])))) s
      have hi := ih m (j + 1) (putStep a1 (a0.getD j (ByteArray.empty, (0, (0, [])))) s) (by omega) (by omega) (by omega)
      have g2 : decide ((a0.getD j (ByteArray.empty, (0, (0, [])))).2.2.2.length ≤ 1048576) = true := decide_eq_true (by
        have h1 := wP_ge (a0.getD j (ByteArray.empty, (0, (0, [])))).2.2.2
        unfold wE at hs
        omega)
      have hlo := wEs_ge s.2
      show _ = k (putFin a0 a1 (putGo a1 (a0.drop (j + 1)) (putStep a1 (a0.getD j (ByteArray.empty, (0, (0, [])))) s))).1 (putFin a0 a1 (putGo a1 (a0.drop (j + 1)) (putStep a1 (a0.getD j (ByteArray.empty, (0, (0, [])))) s))).2
      rw [← hi, h0]
      obtain ⟨b, o⟩ := s
      have hlo : o.length ≤ wEs o := hlo
      have hs : wEs o + putW a1 b + _ ≤ 1048576 := hs
      have hf : ∀ x : TEntry, fit (List.length o) (List.length [x]) = true := fun x => fit_of (by simp; omega)
      have hf2 : ∀ x : TEntry, fit (List.length (o.append [a1])) (List.length [x]) = true := fun x => fit_of (by show (o ++ [a1]).length + _ ≤ _; simp; omega)
      simp only [spec_PutEntry_L0, spec_PutEntry_P_L0, lt_nat, inRange_nat, decide_eq_true hj, cond_true, Int.toNat_natCast, G.spec_l8Copy, N.spec_l8Copy, N.spec_CompareLabels, g2, g3, hf, hf2, wrap_succ (j := j) (by unfold big; omega)]
      unfold putStep putAt
      cases decide (cmpStr (a0.getD j (ByteArray.empty, (0, (0, [])))).1 a1.1 ≥ 0) <;> cases b <;> cases (cmpStr (a0.getD j (ByteArray.empty, (0, (0, [])))).1 a1.1 != 0) <;> rfl
  exact go a0.length n 0 (false, []) (by omega) (by omega) (by
    have h3 : wEs ([] : List TEntry) = 0 := rfl
    have h4 : putW a1 false = 1 + wE a1 := rfl
    dsimp only
    rw [h3, h4, List.drop_zero]
    omega)
def OP_spec_PutEntry (f_spec_CompareLabels : ByteArray → ByteArray → Int) (f_spec_l8Copy : TEntry → TEntry) (g_spec_l8Copy : TEntry → Bool) (f_spec_AreEntries : (List TEntry) → Bool) (g_spec_AreEntries : (List TEntry) → Bool) (f_spec_l9Copy : (List TEntry) → (List TEntry)) (g_spec_l9Copy : (List TEntry) → Bool) : Orac := (orcX 102 [.val (.slice 100 TyEntry)] (fun d => g_spec_l9Copy d.1) (fun d => [⟨(.slice 100 TyEntry), f_spec_l9Copy d.1⟩]) (orcX 92 [.val (.slice 100 TyEntry)] (fun d => g_spec_AreEntries d.1) (fun d => [⟨.bool, f_spec_AreEntries d.1⟩]) (orcX 101 [.val TyEntry] (fun d => g_spec_l8Copy d.1) (fun d => [⟨TyEntry, f_spec_l8Copy d.1⟩]) (orcX 100 [.val .str, .val .str] (fun d => true) (fun d => [⟨(.int .i64), f_spec_CompareLabels d.1 d.2.1⟩]) nilO))))
def O_spec_PutEntry : Orac := OP_spec_PutEntry N.spec_CompareLabels N.spec_l8Copy G.spec_l8Copy N.spec_AreEntries G.spec_AreEntries N.spec_l9Copy G.spec_l9Copy
theorem ok_spec_PutEntry : OracOk Tryz.prog sigs O_spec_PutEntry := (orcX_ok rfl rfl (fun d g => said_spec_l9Copy d.1 g) (orcX_ok rfl rfl (fun d g => said_spec_AreEntries d.1 g) (orcX_ok rfl rfl (fun d g => said_spec_l8Copy d.1 g) (orcX_ok rfl rfl (fun d g => said_spec_CompareLabels d.1 d.2.1) nilO_ok))))
def A_spec_PutEntry : Ann := fun b => cond (Nat.beq b 0) ⟨[(0, false), (3, false), (6, true), (7, false), (8, false)], [(3, false)]⟩ (⟨[], []⟩)
def S_spec_PutEntry_0 (v0_0 : (List TEntry)) (v0_1 : Bool) (v0_2 : Int) (v0_3 : TEntry) (v0_4 : (List TEntry)) : St := [(kT 0, some (.tv (.v (.slice 100 TyEntry) v0_0 .no))), (kT 3, some (.tv (.box 3 []))), (kT 6, some (.tv (.v (.slice 100 TyEntry) [] (.own 48)))), (kT 7, some (.tv (.v .bool v0_1 .no))), (kT 8, some (.tv (.v (.int .i64) v0_2 .no))), (kB 3, some (.box TyEntry v0_3 .no)), (kR 48, some (.row 100 TyEntry v0_4))]
noncomputable def L_P_spec_PutEntry_0 (f_spec_CompareLabels : ByteArray → ByteArray → Int) (f_spec_l8Copy : TEntry → TEntry) (g_spec_l8Copy : TEntry → Bool) (f_spec_AreEntries : (List TEntry) → Bool) (g_spec_AreEntries : (List TEntry) → Bool) (f_spec_l9Copy : (List TEntry) → (List TEntry)) (g_spec_l9Copy : (List TEntry) → Bool) (n m : Nat) : St → Option Ret := loopOf tab sigs (OP_spec_PutEntry f_spec_CompareLabels f_spec_l8Copy g_spec_l8Copy f_spec_AreEntries g_spec_AreEntries f_spec_l9Copy g_spec_l9Copy) A_spec_PutEntry Tryz.f90 [((.slice 100 TyEntry), (.own 0)), (.bool, .no)] n (fun _ => 0) 0 m
noncomputable def L_spec_PutEntry_0 (n m : Nat) : St → Option Ret := L_P_spec_PutEntry_0 N.spec_CompareLabels N.spec_l8Copy G.spec_l8Copy N.spec_AreEntries G.spec_AreEntries N.spec_l9Copy G.spec_l9Copy n m
theorem bP_spec_PutEntry_0 (f_spec_CompareLabels : ByteArray → ByteArray → Int) (f_spec_l8Copy : TEntry → TEntry) (g_spec_l8Copy : TEntry → Bool) (f_spec_AreEntries : (List TEntry) → Bool) (g_spec_AreEntries : (List TEntry) → Bool) (f_spec_l9Copy : (List TEntry) → (List TEntry)) (g_spec_l9Copy : (List TEntry) → Bool) (n m : Nat) (v0_0 : (List TEntry)) (v0_1 : Bool) (v0_2 : Int) (v0_3 : TEntry) (v0_4 : (List TEntry)) : L_P_spec_PutEntry_0 f_spec_CompareLabels f_spec_l8Copy g_spec_l8Copy f_spec_AreEntries g_spec_AreEntries f_spec_l9Copy g_spec_l9Copy n (m + 1) (S_spec_PutEntry_0 v0_0 v0_1 v0_2 v0_3 v0_4) = spec_PutEntry_P_L0 f_spec_CompareLabels f_spec_l8Copy g_spec_l8Copy f_spec_AreEntries g_spec_AreEntries f_spec_l9Copy g_spec_l9Copy (fun r0 r1 => some [⟨(.slice 100 TyEntry), r0⟩, ⟨.bool, r1⟩]) (fun v0_0 v0_1 v0_2 v0_3 v0_4 => L_P_spec_PutEntry_0 f_spec_CompareLabels f_spec_l8Copy g_spec_l8Copy f_spec_AreEntries g_spec_AreEntries f_spec_l9Copy g_spec_l9Copy n m (S_spec_PutEntry_0 v0_0 v0_1 v0_2 v0_3 v0_4)) v0_0 v0_1 v0_2 v0_3 v0_4 := by kernel_rfl
theorem b_spec_PutEntry_0 (n m : Nat) (v0_0 : (List TEntry)) (v0_1 : Bool) (v0_2 : Int) (v0_3 : TEntry) (v0_4 : (List TEntry)) : L_spec_PutEntry_0 n (m + 1) (S_spec_PutEntry_0 v0_0 v0_1 v0_2 v0_3 v0_4) = spec_PutEntry_L0 (fun r0 r1 => some [⟨(.slice 100 TyEntry), r0⟩, ⟨.bool, r1⟩]) (fun v0_0 v0_1 v0_2 v0_3 v0_4 => L_spec_PutEntry_0 n m (S_spec_PutEntry_0 v0_0 v0_1 v0_2 v0_3 v0_4)) v0_0 v0_1 v0_2 v0_3 v0_4 := bP_spec_PutEntry_0 N.spec_CompareLabels N.spec_l8Copy G.spec_l8Copy N.spec_AreEntries G.spec_AreEntries N.spec_l9Copy G.spec_l9Copy n m v0_0 v0_1 v0_2 v0_3 v0_4
theorem aP_spec_PutEntry (f_spec_CompareLabels : ByteArray → ByteArray → Int) (f_spec_l8Copy : TEntry → TEntry) (g_spec_l8Copy : TEntry → Bool) (f_spec_AreEntries : (List TEntry) → Bool) (g_spec_AreEntries : (List TEntry) → Bool) (f_spec_l9Copy : (List TEntry) → (List TEntry)) (g_spec_l9Copy : (List TEntry) → Bool) (n : Nat) (a0 : (List TEntry)) (a1 : TEntry) : absF tab sigs (OP_spec_PutEntry f_spec_CompareLabels f_spec_l8Copy g_spec_l8Copy f_spec_AreEntries g_spec_AreEntries f_spec_l9Copy g_spec_l9Copy) A_spec_PutEntry Tryz.f90 [((.slice 100 TyEntry), (.own 0)), (.bool, .no)] n [.val (.slice 100 TyEntry) a0, .val TyEntry a1] = spec_PutEntry_P f_spec_CompareLabels f_spec_l8Copy g_spec_l8Copy f_spec_AreEntries g_spec_AreEntries f_spec_l9Copy g_spec_l9Copy (fun r0 r1 => some [⟨(.slice 100 TyEntry), r0⟩, ⟨.bool, r1⟩]) (fun v0_0 v0_1 v0_2 v0_3 v0_4 => L_P_spec_PutEntry_0 f_spec_CompareLabels f_spec_l8Copy g_spec_l8Copy f_spec_AreEntries g_spec_AreEntries f_spec_l9Copy g_spec_l9Copy n n (S_spec_PutEntry_0 v0_0 v0_1 v0_2 v0_3 v0_4)) a0 a1 := by kernel_rfl
theorem a_spec_PutEntry (n : Nat) (a0 : (List TEntry)) (a1 : TEntry) : absF tab sigs O_spec_PutEntry A_spec_PutEntry Tryz.f90 [((.slice 100 TyEntry), (.own 0)), (.bool, .no)] n [.val (.slice 100 TyEntry) a0, .val TyEntry a1] = spec_PutEntry (fun r0 r1 => some [⟨(.slice 100 TyEntry), r0⟩, ⟨.bool, r1⟩]) (fun v0_0 v0_1 v0_2 v0_3 v0_4 => L_spec_PutEntry_0 n n (S_spec_PutEntry_0 v0_0 v0_1 v0_2 v0_3 v0_4)) a0 a1 := aP_spec_PutEntry N.spec_CompareLabels N.spec_l8Copy G.spec_l8Copy N.spec_AreEntries G.spec_AreEntries N.spec_l9Copy G.spec_l9Copy n a0 a1
theorem said_spec_PutEntry (a0 : (List TEntry)) (a1 : TEntry) (g : G.spec_PutEntry a0 a1 = true) : Said Tryz.prog sigs_90 90 [.val (.slice 100 TyEntry) a0, .val TyEntry a1] [⟨(.slice 100 TyEntry), (N.spec_PutEntry a0 a1).1⟩, ⟨.bool, (N.spec_PutEntry a0 a1).2⟩] := said_len (T := tab) (A := A_spec_PutEntry) tabOk ok_spec_PutEntry tabOk.follows Tryz.func90 (by kernel_rfl) (by kernel_rfl) (fun hl => let ⟨n, hn⟩ := spec_PutEntry_ok (ρ := Ret) (fun r0 r1 => some [⟨(.slice 100 TyEntry), r0⟩, ⟨.bool, r1⟩]) a0 a1 hl.1 hl.2.1 g; ⟨n, (a_spec_PutEntry n a0 a1).trans (hn n (Nat.le_refl n) (fun  m v0_0 v0_1 v0_2 v0_3 v0_4 => L_spec_PutEntry_0 n  m (S_spec_PutEntry_0 v0_0 v0_1 v0_2 v0_3 v0_4)) (fun  m v0_0 v0_1 v0_2 v0_3 v0_4 => b_spec_PutEntry_0 n  m v0_0 v0_1 v0_2 v0_3 v0_4))⟩)
abbrev G.spec_l9List (c : TCur) : Bool := okC c
abbrev N.spec_l9List (c : TCur) : TCur × List TEntry := listC c
def spec_l9List_L0 {ρ : Type} (k : TCur → (List TEntry) → Option ρ) (L0 : Int → TCur → (List TEntry) → Option ρ) (v0_0 : Int) (v0_1 : TCur) (v0_2 : (List TEntry)) : Option ρ := (cond (decide (v0_0 > (0 : Int))) (cond (G.spec_l8Entry v0_1) (cond (G.spec_PutEntry v0_2 (N.spec_l8Entry v0_1).2) (L0 (IntKind.wrap .i64 (v0_0 - (1 : Int))) (N.spec_l8Entry v0_1).1 (N.spec_PutEntry v0_2 (N.spec_l8Entry v0_1).2).1) none) none) (k v0_1 v0_2))
def spec_l9List {ρ : Type} (k : TCur → (List TEntry) → Option ρ) (L0 : Int → TCur → (List TEntry) → Option ρ) (a0 : TCur) : Option ρ := (cond (G.spec_l1Below a0 (7 : Int)) (L0 (N.spec_l1Below a0 (7 : Int)).2 (N.spec_l1Below a0 (7 : Int)).1 ([] : (List (ByteArray × (Int × (Int × (List ByteArray))))))) none)
theorem spec_l9List_ok {ρ : Type} (k : TCur → (List TEntry) → Option ρ) (a0 : TCur) (l_a0 : (lnL (fun _ => True) a0.1 ∧ (True ∧ True))) (g : G.spec_l9List a0 = true) : ∃ n0, ∀ n, n0 ≤ n → ∀ (L0 : Nat → Int → TCur → (List TEntry) → Option ρ) (h0 : ∀ ( m : Nat) (v0_0 : Int) (v0_1 : TCur) (v0_2 : (List TEntry)), L0 (m + 1) v0_0 v0_1 v0_2 = spec_l9List_L0 k (L0 m) v0_0 v0_1 v0_2), spec_l9List k (L0 n) a0 = k (N.spec_l9List a0).1 (N.spec_l9List a0).2 := by
  unfold G.spec_l9List at g
  have hr := below_range a0 (n := 7) (by omega)
  refine ⟨10, fun n hn L0 h0 => ?_⟩
  have go : ∀ (d n : Nat) (c : TCur) (o : List TEntry), okC c = true → d < n → d ≤ 7 → wEs o + 40 * d ≤ 1000 → L0 n (d : Int) c o = k (listGo d c o).1 (listGo d c o).2 := by
    intro d
    induction d with
    | zero =>
      intro n c o hc hn _ _
      obtain ⟨m, rfl⟩ : ∃ m, n = m + 1 := ⟨n - 1, by omega⟩
      rw [h0]
      rfl
    | succ d ih =>
      intro n c o hc hn h3 ho
      obtain ⟨m, rfl⟩ : ∃ m, n = m + 1 := ⟨n - 1, by omega⟩
      have e1 : decide (((d + 1 : Nat) : Int) > 0) = true := decide_eq_true (by omega)
      have e2 : IntKind.wrap .i64 (((d + 1 : Nat) : Int) - 1) = (d : Int) := by rw [wrap_id (by omega) (by omega)]; omega
      have h4 := entry_w c
      have h5 := putE_w o (entryC c).2
      have g2 : decide (wEs o + wE (entryC c).2 + 1 ≤ 1048576) = true := decide_eq_true (by omega)
      rw [h0]
      simp only [spec_l9List_L0, G.spec_l8Entry, N.spec_l8Entry, G.spec_PutEntry, N.spec_PutEntry, g2, e1, e2, hc, cond_true]
      exact ih m (entryC c).1 (putE o (entryC c).2).1 (okC_entry hc) (by omega) (by omega) (by omega)
  have e3 : (belowC a0 7).2 = (((belowC a0 7).2.toNat : Nat) : Int) := by omega
  simp only [spec_l9List, G.spec_l1Below, N.spec_l1Below, g, cond_true]
  rw [e3]
  exact go _ n _ [] (okC_below 7 g) (by omega) (by omega) (by have h3 : wEs ([] : List TEntry) = 0 := rfl; omega)
def OP_spec_l9List (f_spec_l1Below : TCur → Int → (TCur × Int)) (g_spec_l1Below : TCur → Int → Bool) (f_spec_l8Entry : TCur → (TCur × TEntry)) (g_spec_l8Entry : TCur → Bool) (f_spec_PutEntry : (List TEntry) → TEntry → ((List TEntry) × Bool)) (g_spec_PutEntry : (List TEntry) → TEntry → Bool) : Orac := (orcX 90 [.val (.slice 100 TyEntry), .val TyEntry] (fun d => g_spec_PutEntry d.1 d.2.1) (fun d => [⟨(.slice 100 TyEntry), (f_spec_PutEntry d.1 d.2.1).1⟩, ⟨.bool, (f_spec_PutEntry d.1 d.2.1).2⟩]) (orcX 91 [.lend (.pair (.slice 5 (.int .u8)) (.pair (.int .i64) (.int .i64))) .no] (fun d => g_spec_l8Entry d.1) (fun d => [⟨(.pair (.slice 5 (.int .u8)) (.pair (.int .i64) (.int .i64))), (f_spec_l8Entry d.1).1⟩, ⟨TyEntry, (f_spec_l8Entry d.1).2⟩]) (orcX 41 [.lend (.pair (.slice 5 (.int .u8)) (.pair (.int .i64) (.int .i64))) .no, .val (.int .i64)] (fun d => g_spec_l1Below d.1 d.2.1) (fun d => [⟨(.pair (.slice 5 (.int .u8)) (.pair (.int .i64) (.int .i64))), (f_spec_l1Below d.1 d.2.1).1⟩, ⟨(.int .i64), (f_spec_l1Below d.1 d.2.1).2⟩]) nilO)))
def O_spec_l9List : Orac := OP_spec_l9List N.spec_l1Below G.spec_l1Below N.spec_l8Entry G.spec_l8Entry N.spec_PutEntry G.spec_PutEntry
def spec_l9List_P_L0 {ρ : Type} (f_spec_l1Below : TCur → Int → (TCur × Int)) (g_spec_l1Below : TCur → Int → Bool) (f_spec_l8Entry : TCur → (TCur × TEntry)) (g_spec_l8Entry : TCur → Bool) (f_spec_PutEntry : (List TEntry) → TEntry → ((List TEntry) × Bool)) (g_spec_PutEntry : (List TEntry) → TEntry → Bool) (k : TCur → (List TEntry) → Option ρ) (L0 : Int → TCur → (List TEntry) → Option ρ) (v0_0 : Int) (v0_1 : TCur) (v0_2 : (List TEntry)) : Option ρ := (cond (decide (v0_0 > (0 : Int))) (cond (g_spec_l8Entry v0_1) (cond (g_spec_PutEntry v0_2 (f_spec_l8Entry v0_1).2) (L0 (IntKind.wrap .i64 (v0_0 - (1 : Int))) (f_spec_l8Entry v0_1).1 (f_spec_PutEntry v0_2 (f_spec_l8Entry v0_1).2).1) none) none) (k v0_1 v0_2))
def spec_l9List_P {ρ : Type} (f_spec_l1Below : TCur → Int → (TCur × Int)) (g_spec_l1Below : TCur → Int → Bool) (f_spec_l8Entry : TCur → (TCur × TEntry)) (g_spec_l8Entry : TCur → Bool) (f_spec_PutEntry : (List TEntry) → TEntry → ((List TEntry) × Bool)) (g_spec_PutEntry : (List TEntry) → TEntry → Bool) (k : TCur → (List TEntry) → Option ρ) (L0 : Int → TCur → (List TEntry) → Option ρ) (a0 : TCur) : Option ρ := (cond (g_spec_l1Below a0 (7 : Int)) (L0 (f_spec_l1Below a0 (7 : Int)).2 (f_spec_l1Below a0 (7 : Int)).1 ([] : (List (ByteArray × (Int × (Int × (List ByteArray))))))) none)
theorem ok_spec_l9List : OracOk Tryz.prog sigs O_spec_l9List := (orcX_ok rfl rfl (fun d g => said_spec_PutEntry d.1 d.2.1 g) (orcB_ok rfl (fun d g => said_spec_l8Entry d.1 g) (orcB_ok rfl (fun d g => said_spec_l1Below d.1 d.2.1 g) nilO_ok)))
def A_spec_l9List : Ann := fun b => cond (Nat.beq b 0) ⟨[(0, false), (3, true), (4, false)], [(0, false)]⟩ (⟨[], []⟩)
def S_spec_l9List_0 (v0_0 : Int) (v0_1 : TCur) (v0_2 : (List TEntry)) : St := [(kT 0, some (.tv (.box 0 []))), (kT 3, some (.tv (.v (.slice 100 TyEntry) [] (.own 24)))), (kT 4, some (.tv (.v (.int .i64) v0_0 .no))), (kB 0, some (.box (.pair (.slice 5 (.int .u8)) (.pair (.int .i64) (.int .i64))) v0_1 .no)), (kR 24, some (.row 100 TyEntry v0_2))]
noncomputable def L_P_spec_l9List_0 (f_spec_l1Below : TCur → Int → (TCur × Int)) (g_spec_l1Below : TCur → Int → Bool) (f_spec_l8Entry : TCur → (TCur × TEntry)) (g_spec_l8Entry : TCur → Bool) (f_spec_PutEntry : (List TEntry) → TEntry → ((List TEntry) × Bool)) (g_spec_PutEntry : (List TEntry) → TEntry → Bool) (n m : Nat) : St → Option Ret := loopOfB tab sigs (OP_spec_l9List f_spec_l1Below g_spec_l1Below f_spec_l8Entry g_spec_l8Entry f_spec_PutEntry g_spec_PutEntry) A_spec_l9List Tryz.f77 [((.slice 100 TyEntry), (.own 0))] (.pair (.slice 5 (.int .u8)) (.pair (.int .i64) (.int .i64))) n (fun _ => 0) 0 m
noncomputable def L_spec_l9List_0 (n m : Nat) : St → Option Ret := L_P_spec_l9List_0 N.spec_l1Below G.spec_l1Below N.spec_l8Entry G.spec_l8Entry N.spec_PutEntry G.spec_PutEntry n m
theorem bP_spec_l9List_0 (f_spec_l1Below : TCur → Int → (TCur × Int)) (g_spec_l1Below : TCur → Int → Bool) (f_spec_l8Entry : TCur → (TCur × TEntry)) (g_spec_l8Entry : TCur → Bool) (f_spec_PutEntry : (List TEntry) → TEntry → ((List TEntry) × Bool)) (g_spec_PutEntry : (List TEntry) → TEntry → Bool) (n m : Nat) (v0_0 : Int) (v0_1 : TCur) (v0_2 : (List TEntry)) : L_P_spec_l9List_0 f_spec_l1Below g_spec_l1Below f_spec_l8Entry g_spec_l8Entry f_spec_PutEntry g_spec_PutEntry n (m + 1) (S_spec_l9List_0 v0_0 v0_1 v0_2) = spec_l9List_P_L0 f_spec_l1Below g_spec_l1Below f_spec_l8Entry g_spec_l8Entry f_spec_PutEntry g_spec_PutEntry (fun r0 r1 => some [⟨(.pair (.slice 5 (.int .u8)) (.pair (.int .i64) (.int .i64))), r0⟩, ⟨(.slice 100 TyEntry), r1⟩]) (fun v0_0 v0_1 v0_2 => L_P_spec_l9List_0 f_spec_l1Below g_spec_l1Below f_spec_l8Entry g_spec_l8Entry f_spec_PutEntry g_spec_PutEntry n m (S_spec_l9List_0 v0_0 v0_1 v0_2)) v0_0 v0_1 v0_2 := by kernel_rfl
theorem b_spec_l9List_0 (n m : Nat) (v0_0 : Int) (v0_1 : TCur) (v0_2 : (List TEntry)) : L_spec_l9List_0 n (m + 1) (S_spec_l9List_0 v0_0 v0_1 v0_2) = spec_l9List_L0 (fun r0 r1 => some [⟨(.pair (.slice 5 (.int .u8)) (.pair (.int .i64) (.int .i64))), r0⟩, ⟨(.slice 100 TyEntry), r1⟩]) (fun v0_0 v0_1 v0_2 => L_spec_l9List_0 n m (S_spec_l9List_0 v0_0 v0_1 v0_2)) v0_0 v0_1 v0_2 := bP_spec_l9List_0 N.spec_l1Below G.spec_l1Below N.spec_l8Entry G.spec_l8Entry N.spec_PutEntry G.spec_PutEntry n m v0_0 v0_1 v0_2
theorem aP_spec_l9List (f_spec_l1Below : TCur → Int → (TCur × Int)) (g_spec_l1Below : TCur → Int → Bool) (f_spec_l8Entry : TCur → (TCur × TEntry)) (g_spec_l8Entry : TCur → Bool) (f_spec_PutEntry : (List TEntry) → TEntry → ((List TEntry) × Bool)) (g_spec_PutEntry : (List TEntry) → TEntry → Bool) (n : Nat) (a0 : TCur) : absFB tab sigs (OP_spec_l9List f_spec_l1Below g_spec_l1Below f_spec_l8Entry g_spec_l8Entry f_spec_PutEntry g_spec_PutEntry) A_spec_l9List Tryz.f77 [((.slice 100 TyEntry), (.own 0))] n (.pair (.slice 5 (.int .u8)) (.pair (.int .i64) (.int .i64))) a0 [] = spec_l9List_P f_spec_l1Below g_spec_l1Below f_spec_l8Entry g_spec_l8Entry f_spec_PutEntry g_spec_PutEntry (fun r0 r1 => some [⟨(.pair (.slice 5 (.int .u8)) (.pair (.int .i64) (.int .i64))), r0⟩, ⟨(.slice 100 TyEntry), r1⟩]) (fun v0_0 v0_1 v0_2 => L_P_spec_l9List_0 f_spec_l1Below g_spec_l1Below f_spec_l8Entry g_spec_l8Entry f_spec_PutEntry g_spec_PutEntry n n (S_spec_l9List_0 v0_0 v0_1 v0_2)) a0 := by kernel_rfl
theorem a_spec_l9List (n : Nat) (a0 : TCur) : absFB tab sigs O_spec_l9List A_spec_l9List Tryz.f77 [((.slice 100 TyEntry), (.own 0))] n (.pair (.slice 5 (.int .u8)) (.pair (.int .i64) (.int .i64))) a0 [] = spec_l9List (fun r0 r1 => some [⟨(.pair (.slice 5 (.int .u8)) (.pair (.int .i64) (.int .i64))), r0⟩, ⟨(.slice 100 TyEntry), r1⟩]) (fun v0_0 v0_1 v0_2 => L_spec_l9List_0 n n (S_spec_l9List_0 v0_0 v0_1 v0_2)) a0 := aP_spec_l9List N.spec_l1Below G.spec_l1Below N.spec_l8Entry G.spec_l8Entry N.spec_PutEntry G.spec_PutEntry n a0
theorem said_spec_l9List (a0 : TCur) (g : G.spec_l9List a0 = true) : SaidP Tryz.prog sigs_77 77 (.pair (.slice 5 (.int .u8)) (.pair (.int .i64) (.int .i64))) a0 [] [⟨(.pair (.slice 5 (.int .u8)) (.pair (.int .i64) (.int .i64))), (N.spec_l9List a0).1⟩, ⟨(.slice 100 TyEntry), (N.spec_l9List a0).2⟩] := said_lenB (T := tab) (A := A_spec_l9List) tabOk ok_spec_l9List tabOk.follows Tryz.func77 (by kernel_rfl) (by kernel_rfl) (fun hl => let ⟨n, hn⟩ := spec_l9List_ok (ρ := Ret) (fun r0 r1 => some [⟨(.pair (.slice 5 (.int .u8)) (.pair (.int .i64) (.int .i64))), r0⟩, ⟨(.slice 100 TyEntry), r1⟩]) a0 hl.1 g; ⟨n, (a_spec_l9List n a0).trans (hn n (Nat.le_refl n) (fun  m v0_0 v0_1 v0_2 => L_spec_l9List_0 n  m (S_spec_l9List_0 v0_0 v0_1 v0_2)) (fun  m v0_0 v0_1 v0_2 => b_spec_l9List_0 n  m v0_0 v0_1 v0_2))⟩)
abbrev G.spec_KeysInts (k : TKeys) : Bool := decide (wK k ≤ 1048576)
abbrev N.spec_KeysInts (k : TKeys) : List Int := keysInts k
def spec_KeysInts {ρ : Type} (k : (List Int) → Option ρ) (a0 : TKeys) : Option ρ := (cond (fit (List.length [a0.2, (List.length a0.1 : Int)]) (List.length a0.1)) (k (List.append [a0.2, (List.length a0.1 : Int)] a0.1)) none)
theorem spec_KeysInts_ok {ρ : Type} (k : (List Int) → Option ρ) (a0 : TKeys) (l_a0 : (lnL (fun _ => True) a0.1 ∧ True)) (g : G.spec_KeysInts a0 = true) : spec_KeysInts k  a0 = k (N.spec_KeysInts a0) := by
  unfold G.spec_KeysInts at g
  have h : wK a0 ≤ 1048576 := of_decide_eq_true g
  have h1 : fit (List.length [a0.2, (List.length a0.1 : Int)]) (List.length a0.1) = true := fit_of (by
    unfold wK at h
    simp
    omega)
  show cond _ _ none = _
  rw [h1]
  rfl
def O_spec_KeysInts : Orac := nilO
theorem ok_spec_KeysInts : OracOk Tryz.prog sigs O_spec_KeysInts := nilO_ok
def A_spec_KeysInts : Ann := fun b => ⟨[], []⟩
theorem a_spec_KeysInts (n : Nat) (a0 : TKeys) : absF tab sigs O_spec_KeysInts A_spec_KeysInts Tryz.f37 [((.slice 3 (.int .i64)), (.own 0))] n [.val (.pair (.slice 3 (.int .i64)) (.int .i64)) a0] = spec_KeysInts (fun r0 => some [⟨(.slice 3 (.int .i64)), r0⟩])  a0 := by kernel_rfl
theorem said_spec_KeysInts (a0 : TKeys) (g : G.spec_KeysInts a0 = true) : Said Tryz.prog sigs_37 37 [.val (.pair (.slice 3 (.int .i64)) (.int .i64)) a0] [⟨(.slice 3 (.int .i64)), N.spec_KeysInts a0⟩] := said_len (T := tab) (A := A_spec_KeysInts) tabOk ok_spec_KeysInts tabOk.follows Tryz.func37 (by kernel_rfl) (by kernel_rfl) (fun hl => ⟨0, (a_spec_KeysInts 0 a0).trans (spec_KeysInts_ok (ρ := Ret) (fun r0 => some [⟨(.slice 3 (.int .i64)), r0⟩]) a0 hl.1 g)⟩)
abbrev N.spec_Mod (n m : Int) : Int := modM n m
def spec_Mod {ρ : Type} (k : Int → Option ρ) (a0 : Int) (a1 : Int) : Option ρ := (cond (!(N.spec_l1In a1 (1 : Int) (1000000000000 : Int))) (k (0 : Int)) (cond (!(decide (a1 = 0))) (cond (!(decide (a1 = 0))) (k (Int.tmod (IntKind.wrap .i64 ((Int.tmod a0 a1) + a1)) a1)) none) none))
theorem spec_Mod_ok {ρ : Type} (k : Int → Option ρ) (a0 : Int) (a1 : Int) : spec_Mod k  a0 a1 = k (N.spec_Mod a0 a1) := by
  simp only [spec_Mod, N.spec_l1In, modM]
  cases h : inR a1 1 1000000000000
  · rfl
  · have h1 : 1 ≤ a1 := by
      unfold inR at h
      simp only [Bool.and_eq_true, decide_eq_true_eq] at h
      exact h.1
    have h2 : decide (a1 = 0) = false := by simp; omega
    simp [h2]
def OP_spec_Mod (f_spec_l1In : Int → Int → Int → Bool) : Orac := (orcX 59 [.val (.int .i64), .val (.int .i64), .val (.int .i64)] (fun d => true) (fun d => [⟨.bool, f_spec_l1In d.1 d.2.1 d.2.2.1⟩]) nilO)
def O_spec_Mod : Orac := OP_spec_Mod N.spec_l1In
def spec_Mod_P {ρ : Type} (f_spec_l1In : Int → Int → Int → Bool) (k : Int → Option ρ) (a0 : Int) (a1 : Int) : Option ρ := (cond (!(f_spec_l1In a1 (1 : Int) (1000000000000 : Int))) (k (0 : Int)) (cond (!(decide (a1 = 0))) (cond (!(decide (a1 = 0))) (k (Int.tmod (IntKind.wrap .i64 ((Int.tmod a0 a1) + a1)) a1)) none) none))
theorem ok_spec_Mod : OracOk Tryz.prog sigs O_spec_Mod := (orcX_ok rfl rfl (fun d g => said_spec_l1In d.1 d.2.1 d.2.2.1) nilO_ok)
def A_spec_Mod : Ann := fun b => ⟨[], []⟩
theorem aP_spec_Mod (f_spec_l1In : Int → Int → Int → Bool) (n : Nat) (a0 : Int) (a1 : Int) : absF tab sigs (OP_spec_Mod f_spec_l1In) A_spec_Mod Tryz.f84 [((.int .i64), .no)] n [.val (.int .i64) a0, .val (.int .i64) a1] = spec_Mod_P f_spec_l1In (fun r0 => some [⟨(.int .i64), r0⟩])  a0 a1 := by kernel_rfl
theorem a_spec_Mod (n : Nat) (a0 : Int) (a1 : Int) : absF tab sigs O_spec_Mod A_spec_Mod Tryz.f84 [((.int .i64), .no)] n [.val (.int .i64) a0, .val (.int .i64) a1] = spec_Mod (fun r0 => some [⟨(.int .i64), r0⟩])  a0 a1 := aP_spec_Mod N.spec_l1In n a0 a1
theorem said_spec_Mod (a0 : Int) (a1 : Int) : Said Tryz.prog sigs_84 84 [.val (.int .i64) a0, .val (.int .i64) a1] [⟨(.int .i64), N.spec_Mod a0 a1⟩] := said_len (T := tab) (A := A_spec_Mod) tabOk ok_spec_Mod tabOk.follows Tryz.func84 (by kernel_rfl) (by kernel_rfl) (fun hl => ⟨0, (a_spec_Mod 0 a0 a1).trans (spec_Mod_ok (ρ := Ret) (fun r0 => some [⟨(.int .i64), r0⟩]) a0 a1)⟩)
abbrev N.spec_Hash (l : List Int) : Int := hash l
def spec_Hash_L0 {ρ : Type} (k : Int → Option ρ) (L0 : (List Int) → Int → Int → Option ρ) (v0_0 : (List Int)) (v0_1 : Int) (v0_2 : Int) : Option ρ := (cond (decide (v0_2 < (List.length v0_0 : Int))) (cond (inRange v0_2 (List.length v0_0)) (L0 v0_0 (Int.tmod (IntKind.wrap .i64 ((IntKind.wrap .i64 ((IntKind.wrap .i64 (v0_1 * (1000003 : Int))) + (N.spec_Mod (List.getD v0_0 (Int.toNat v0_2) (0 : Int)) (2147483647 : Int)))) + (13 : Int))) (2147483647 : Int)) (IntKind.wrap .i64 (v0_2 + (1 : Int)))) none) (k v0_1))
def spec_Hash {ρ : Type} (k : Int → Option ρ) (L0 : (List Int) → Int → Int → Option ρ) (a0 : (List Int)) : Option ρ := (L0 a0 (11 : Int) (0 : Int))
theorem spec_Hash_ok {ρ : Type} (k : Int → Option ρ) (a0 : (List Int)) (l_a0 : lnL (fun _ => True) a0) : ∃ n0, ∀ n, n0 ≤ n → ∀ (L0 : Nat → (List Int) → Int → Int → Option ρ) (h0 : ∀ ( m : Nat) (v0_0 : (List Int)) (v0_1 : Int) (v0_2 : Int), L0 (m + 1) v0_0 v0_1 v0_2 = spec_Hash_L0 k (L0 m) v0_0 v0_1 v0_2), spec_Hash k (L0 n) a0 = k (N.spec_Hash a0) := by
  refine ⟨a0.length + 1, fun n hn L0 h0 => ?_⟩
  refine raw_foldl (a := a0) 0 hashStep (k := k) (L := fun m i s => L0 m a0 s i) (R := fun i s c => spec_Hash_L0 k (fun _ s i => c i s) a0 s i) (fun m i s => h0 m a0 s i) (fun _ _ => True) (fun j s c hj _ => ?_) (fun _ _ _ _ => trivial) (fun s c => ?_) hn trivial
  · have : j < big := by have := l_a0.1; omega
    simp [spec_Hash_L0, lt_nat, inRange_nat, hj, wrap_succ this, hashStep]
  · simp [spec_Hash_L0]
def OP_spec_Hash (f_spec_Mod : Int → Int → Int) : Orac := (orcX 84 [.val (.int .i64), .val (.int .i64)] (fun d => true) (fun d => [⟨(.int .i64), f_spec_Mod d.1 d.2.1⟩]) nilO)
def O_spec_Hash : Orac := OP_spec_Hash N.spec_Mod
def spec_Hash_P_L0 {ρ : Type} (f_spec_Mod : Int → Int → Int) (k : Int → Option ρ) (L0 : (List Int) → Int → Int → Option ρ) (v0_0 : (List Int)) (v0_1 : Int) (v0_2 : Int) : Option ρ := (cond (decide (v0_2 < (List.length v0_0 : Int))) (cond (inRange v0_2 (List.length v0_0)) (L0 v0_0 (Int.tmod (IntKind.wrap .i64 ((IntKind.wrap .i64 ((IntKind.wrap .i64 (v0_1 * (1000003 : Int))) + (f_spec_Mod (List.getD v0_0 (Int.toNat v0_2) (0 : Int)) (2147483647 : Int)))) + (13 : Int))) (2147483647 : Int)) (IntKind.wrap .i64 (v0_2 + (1 : Int)))) none) (k v0_1))
def spec_Hash_P {ρ : Type} (f_spec_Mod : Int → Int → Int) (k : Int → Option ρ) (L0 : (List Int) → Int → Int → Option ρ) (a0 : (List Int)) : Option ρ := (L0 a0 (11 : Int) (0 : Int))
theorem ok_spec_Hash : OracOk Tryz.prog sigs O_spec_Hash := (orcX_ok rfl rfl (fun d g => said_spec_Mod d.1 d.2.1) nilO_ok)
def A_spec_Hash : Ann := fun b => cond (Nat.beq b 0) ⟨[(0, false), (3, false), (4, false)], []⟩ (⟨[], []⟩)
def S_spec_Hash_0 (v0_0 : (List Int)) (v0_1 : Int) (v0_2 : Int) : St := [(kT 0, some (.tv (.v (.slice 3 (.int .i64)) v0_0 .no))), (kT 3, some (.tv (.v (.int .i64) v0_1 .no))), (kT 4, some (.tv (.v (.int .i64) v0_2 .no)))]
noncomputable def L_P_spec_Hash_0 (f_spec_Mod : Int → Int → Int) (n m : Nat) : St → Option Ret := loopOf tab sigs (OP_spec_Hash f_spec_Mod) A_spec_Hash Tryz.f61 [((.int .i64), .no)] n (fun _ => 0) 0 m
noncomputable def L_spec_Hash_0 (n m : Nat) : St → Option Ret := L_P_spec_Hash_0 N.spec_Mod n m
theorem bP_spec_Hash_0 (f_spec_Mod : Int → Int → Int) (n m : Nat) (v0_0 : (List Int)) (v0_1 : Int) (v0_2 : Int) : L_P_spec_Hash_0 f_spec_Mod n (m + 1) (S_spec_Hash_0 v0_0 v0_1 v0_2) = spec_Hash_P_L0 f_spec_Mod (fun r0 => some [⟨(.int .i64), r0⟩]) (fun v0_0 v0_1 v0_2 => L_P_spec_Hash_0 f_spec_Mod n m (S_spec_Hash_0 v0_0 v0_1 v0_2)) v0_0 v0_1 v0_2 := by kernel_rfl
theorem b_spec_Hash_0 (n m : Nat) (v0_0 : (List Int)) (v0_1 : Int) (v0_2 : Int) : L_spec_Hash_0 n (m + 1) (S_spec_Hash_0 v0_0 v0_1 v0_2) = spec_Hash_L0 (fun r0 => some [⟨(.int .i64), r0⟩]) (fun v0_0 v0_1 v0_2 => L_spec_Hash_0 n m (S_spec_Hash_0 v0_0 v0_1 v0_2)) v0_0 v0_1 v0_2 := bP_spec_Hash_0 N.spec_Mod n m v0_0 v0_1 v0_2
theorem aP_spec_Hash (f_spec_Mod : Int → Int → Int) (n : Nat) (a0 : (List Int)) : absF tab sigs (OP_spec_Hash f_spec_Mod) A_spec_Hash Tryz.f61 [((.int .i64), .no)] n [.val (.slice 3 (.int .i64)) a0] = spec_Hash_P f_spec_Mod (fun r0 => some [⟨(.int .i64), r0⟩]) (fun v0_0 v0_1 v0_2 => L_P_spec_Hash_0 f_spec_Mod n n (S_spec_Hash_0 v0_0 v0_1 v0_2)) a0 := by kernel_rfl
theorem a_spec_Hash (n : Nat) (a0 : (List Int)) : absF tab sigs O_spec_Hash A_spec_Hash Tryz.f61 [((.int .i64), .no)] n [.val (.slice 3 (.int .i64)) a0] = spec_Hash (fun r0 => some [⟨(.int .i64), r0⟩]) (fun v0_0 v0_1 v0_2 => L_spec_Hash_0 n n (S_spec_Hash_0 v0_0 v0_1 v0_2)) a0 := aP_spec_Hash N.spec_Mod n a0
theorem said_spec_Hash (a0 : (List Int)) : Said Tryz.prog sigs_61 61 [.val (.slice 3 (.int .i64)) a0] [⟨(.int .i64), N.spec_Hash a0⟩] := said_len (T := tab) (A := A_spec_Hash) tabOk ok_spec_Hash tabOk.follows Tryz.func61 (by kernel_rfl) (by kernel_rfl) (fun hl => let ⟨n, hn⟩ := spec_Hash_ok (ρ := Ret) (fun r0 => some [⟨(.int .i64), r0⟩]) a0 hl.1; ⟨n, (a_spec_Hash n a0).trans (hn n (Nat.le_refl n) (fun  m v0_0 v0_1 v0_2 => L_spec_Hash_0 n  m (S_spec_Hash_0 v0_0 v0_1 v0_2)) (fun  m v0_0 v0_1 v0_2 => b_spec_Hash_0 n  m v0_0 v0_1 v0_2))⟩)
abbrev G.spec_ZoneOf (k : TKeys) (salt : Int) : Bool := decide (wK k ≤ 1048576)
abbrev N.spec_ZoneOf (k : TKeys) (salt : Int) : Int := zoneOf k salt
def spec_ZoneOf {ρ : Type} (k : Int → Option ρ) (a0 : TKeys) (a1 : Int) : Option ρ := (cond (G.spec_KeysInts a0) (cond (fit (List.length [(239 : Int), a1]) (List.length (N.spec_KeysInts a0))) (k (N.spec_Hash (List.append [(239 : Int), a1] (N.spec_KeysInts a0)))) none) none)
theorem spec_ZoneOf_ok {ρ : Type} (k : Int → Option ρ) (a0 : TKeys) (a1 : Int) (l_a0 : (lnL (fun _ => True) a0.1 ∧ True)) (g : G.spec_ZoneOf a0 a1 = true) : spec_ZoneOf k  a0 a1 = k (N.spec_ZoneOf a0 a1) := by
  unfold G.spec_ZoneOf at g
  have h : wK a0 ≤ 1048576 := of_decide_eq_true g
  have h1 : fit (List.length [(239 : Int), a1]) (List.length (keysInts a0)) = true := fit_of (by
    rw [keysInts_len]
    simp
    omega)
  show cond (decide (wK a0 ≤ 1048576)) (cond _ _ none) none = _
  rw [g, h1]
  rfl
def OP_spec_ZoneOf (f_spec_KeysInts : TKeys → (List Int)) (g_spec_KeysInts : TKeys → Bool) (f_spec_Hash : (List Int) → Int) : Orac := (orcX 61 [.val (.slice 3 (.int .i64))] (fun d => true) (fun d => [⟨(.int .i64), f_spec_Hash d.1⟩]) (orcX 37 [.val (.pair (.slice 3 (.int .i64)) (.int .i64))] (fun d => g_spec_KeysInts d.1) (fun d => [⟨(.slice 3 (.int .i64)), f_spec_KeysInts d.1⟩]) nilO))
def O_spec_ZoneOf : Orac := OP_spec_ZoneOf N.spec_KeysInts G.spec_KeysInts N.spec_Hash
def spec_ZoneOf_P {ρ : Type} (f_spec_KeysInts : TKeys → (List Int)) (g_spec_KeysInts : TKeys → Bool) (f_spec_Hash : (List Int) → Int) (k : Int → Option ρ) (a0 : TKeys) (a1 : Int) : Option ρ := (cond (g_spec_KeysInts a0) (cond (fit (List.length [(239 : Int), a1]) (List.length (f_spec_KeysInts a0))) (k (f_spec_Hash (List.append [(239 : Int), a1] (f_spec_KeysInts a0)))) none) none)
theorem ok_spec_ZoneOf : OracOk Tryz.prog sigs O_spec_ZoneOf := (orcX_ok rfl rfl (fun d g => said_spec_Hash d.1) (orcX_ok rfl rfl (fun d g => said_spec_KeysInts d.1 g) nilO_ok))
def A_spec_ZoneOf : Ann := fun b => ⟨[], []⟩
theorem aP_spec_ZoneOf (f_spec_KeysInts : TKeys → (List Int)) (g_spec_KeysInts : TKeys → Bool) (f_spec_Hash : (List Int) → Int) (n : Nat) (a0 : TKeys) (a1 : Int) : absF tab sigs (OP_spec_ZoneOf f_spec_KeysInts g_spec_KeysInts f_spec_Hash) A_spec_ZoneOf Tryz.f93 [((.int .i64), .no)] n [.val (.pair (.slice 3 (.int .i64)) (.int .i64)) a0, .val (.int .i64) a1] = spec_ZoneOf_P f_spec_KeysInts g_spec_KeysInts f_spec_Hash (fun r0 => some [⟨(.int .i64), r0⟩])  a0 a1 := by kernel_rfl
theorem a_spec_ZoneOf (n : Nat) (a0 : TKeys) (a1 : Int) : absF tab sigs O_spec_ZoneOf A_spec_ZoneOf Tryz.f93 [((.int .i64), .no)] n [.val (.pair (.slice 3 (.int .i64)) (.int .i64)) a0, .val (.int .i64) a1] = spec_ZoneOf (fun r0 => some [⟨(.int .i64), r0⟩])  a0 a1 := aP_spec_ZoneOf N.spec_KeysInts G.spec_KeysInts N.spec_Hash n a0 a1
theorem said_spec_ZoneOf (a0 : TKeys) (a1 : Int) (g : G.spec_ZoneOf a0 a1 = true) : Said Tryz.prog sigs_93 93 [.val (.pair (.slice 3 (.int .i64)) (.int .i64)) a0, .val (.int .i64) a1] [⟨(.int .i64), N.spec_ZoneOf a0 a1⟩] := said_len (T := tab) (A := A_spec_ZoneOf) tabOk ok_spec_ZoneOf tabOk.follows Tryz.func93 (by kernel_rfl) (by kernel_rfl) (fun hl => ⟨0, (a_spec_ZoneOf 0 a0 a1).trans (spec_ZoneOf_ok (ρ := Ret) (fun r0 => some [⟨(.int .i64), r0⟩]) a0 a1 hl.1 g)⟩)
abbrev G.spec_BytesToInts (b : List Int) : Bool := decide (b.length ≤ 1048577)
abbrev N.spec_BytesToInts (b : List Int) : List Int := bytesInts b
def spec_BytesToInts_L0 {ρ : Type} (k : (List Int) → Option ρ) (L0 : (List Int) → Int → (List Int) → Option ρ) (v0_0 : (List Int)) (v0_1 : Int) (v0_2 : (List Int)) : Option ρ := (cond (decide (v0_1 < (List.length v0_0 : Int))) (cond (inRange v0_1 (List.length v0_0)) (cond (fit (List.length v0_2) (List.length [(IntKind.wrap .i64 (List.getD v0_0 (Int.toNat v0_1) (0 : Int)))])) (L0 v0_0 (IntKind.wrap .i64 (v0_1 + (1 : Int))) (List.append v0_2 [(IntKind.wrap .i64 (List.getD v0_0 (Int.toNat v0_1) (0 : Int)))])) none) none) (k v0_2))
def spec_BytesToInts {ρ : Type} (k : (List Int) → Option ρ) (L0 : (List Int) → Int → (List Int) → Option ρ) (a0 : (List Int)) : Option ρ := (L0 a0 (0 : Int) [(List.length a0 : Int)])
theorem spec_BytesToInts_ok {ρ : Type} (k : (List Int) → Option ρ) (a0 : (List Int)) (l_a0 : lnL (fun _ => True) a0) (g : G.spec_BytesToInts a0 = true) : ∃ n0, ∀ n, n0 ≤ n → ∀ (L0 : Nat → (List Int) → Int → (List Int) → Option ρ) (h0 : ∀ ( m : Nat) (v0_0 : (List Int)) (v0_1 : Int) (v0_2 : (List Int)), L0 (m + 1) v0_0 v0_1 v0_2 = spec_BytesToInts_L0 k (L0 m) v0_0 v0_1 v0_2), spec_BytesToInts k (L0 n) a0 = k (N.spec_BytesToInts a0) := by
  unfold G.spec_BytesToInts at g
  have hlen : a0.length ≤ 1048577 := of_decide_eq_true g
  refine ⟨a0.length + 1, fun n hn L0 h0 => ?_⟩
  refine (raw_foldl (a := a0) 0 (fun o x => o ++ [IntKind.wrap .i64 x]) (k := k) (s := [(a0.length : Int)]) (L := fun m i s => L0 m a0 i s) (R := fun i s c => spec_BytesToInts_L0 k (fun _ i s => c i s) a0 i s) (fun m i s => h0 m a0 i s) (fun j o => o.length ≤ j + 1) (fun j s c hj hI => ?_) (fun j s hj hI => by simp; exact hI) (fun s c => ?_) hn (by simp)).trans (by rw [foldl_app]; rfl)
  · have : j < big := by unfold big; omega
    have e3 : fit s.length 1 = true := fit_of (by omega)
    simp only [spec_BytesToInts_L0, lt_nat, inRange_nat, decide_eq_true hj, cond_true, Int.toNat_natCast, List.length_singleton, e3, wrap_succ this, List.append_eq]
  · simp [spec_BytesToInts_L0]
def O_spec_BytesToInts : Orac := nilO
theorem ok_spec_BytesToInts : OracOk Tryz.prog sigs O_spec_BytesToInts := nilO_ok
def A_spec_BytesToInts : Ann := fun b => cond (Nat.beq b 0) ⟨[(0, false), (3, true), (4, false)], []⟩ (⟨[], []⟩)
def S_spec_BytesToInts_0 (v0_0 : (List Int)) (v0_1 : Int) (v0_2 : (List Int)) : St := [(kT 0, some (.tv (.v (.slice 5 (.int .u8)) v0_0 .no))), (kT 3, some (.tv (.v (.slice 3 (.int .i64)) [] (.own 24)))), (kT 4, some (.tv (.v (.int .i64) v0_1 .no))), (kR 24, some (.row 3 (.int .i64) v0_2))]
noncomputable def L_spec_BytesToInts_0 (n m : Nat) : St → Option Ret := loopOf tab sigs O_spec_BytesToInts A_spec_BytesToInts Tryz.f119 [((.slice 3 (.int .i64)), (.own 0))] n (fun _ => 0) 0 m
theorem b_spec_BytesToInts_0 (n m : Nat) (v0_0 : (List Int)) (v0_1 : Int) (v0_2 : (List Int)) : L_spec_BytesToInts_0 n (m + 1) (S_spec_BytesToInts_0 v0_0 v0_1 v0_2) = spec_BytesToInts_L0 (fun r0 => some [⟨(.slice 3 (.int .i64)), r0⟩]) (fun v0_0 v0_1 v0_2 => L_spec_BytesToInts_0 n m (S_spec_BytesToInts_0 v0_0 v0_1 v0_2)) v0_0 v0_1 v0_2 := by kernel_rfl
theorem a_spec_BytesToInts (n : Nat) (a0 : (List Int)) : absF tab sigs O_spec_BytesToInts A_spec_BytesToInts Tryz.f119 [((.slice 3 (.int .i64)), (.own 0))] n [.val (.slice 5 (.int .u8)) a0] = spec_BytesToInts (fun r0 => some [⟨(.slice 3 (.int .i64)), r0⟩]) (fun v0_0 v0_1 v0_2 => L_spec_BytesToInts_0 n n (S_spec_BytesToInts_0 v0_0 v0_1 v0_2)) a0 := by kernel_rfl
theorem said_spec_BytesToInts (a0 : (List Int)) (g : G.spec_BytesToInts a0 = true) : Said Tryz.prog sigs_119 119 [.val (.slice 5 (.int .u8)) a0] [⟨(.slice 3 (.int .i64)), N.spec_BytesToInts a0⟩] := said_len (T := tab) (A := A_spec_BytesToInts) tabOk ok_spec_BytesToInts tabOk.follows Tryz.func119 (by kernel_rfl) (by kernel_rfl) (fun hl => let ⟨n, hn⟩ := spec_BytesToInts_ok (ρ := Ret) (fun r0 => some [⟨(.slice 3 (.int .i64)), r0⟩]) a0 hl.1 g; ⟨n, (a_spec_BytesToInts n a0).trans (hn n (Nat.le_refl n) (fun  m v0_0 v0_1 v0_2 => L_spec_BytesToInts_0 n  m (S_spec_BytesToInts_0 v0_0 v0_1 v0_2)) (fun  m v0_0 v0_1 v0_2 => b_spec_BytesToInts_0 n  m v0_0 v0_1 v0_2))⟩)
abbrev G.spec_LabelInts (s : ByteArray) : Bool := decide (s.size ≤ 1048576)
abbrev N.spec_LabelInts (s : ByteArray) : List Int := labelInts s
def spec_LabelInts {ρ : Type} (k : (List Int) → Option ρ) (a0 : ByteArray) : Option ρ := (cond (decide ((ByteArray.size a0 : Int) ≤ 549755813888)) (cond (G.spec_BytesToInts (bytesOf a0)) (k (N.spec_BytesToInts (bytesOf a0))) none) none)
theorem spec_LabelInts_ok {ρ : Type} (k : (List Int) → Option ρ) (a0 : ByteArray) (g : G.spec_LabelInts a0 = true) : spec_LabelInts k  a0 = k (N.spec_LabelInts a0) := by
  unfold G.spec_LabelInts at g
  have h : a0.size ≤ 1048576 := of_decide_eq_true g
  have h1 : decide ((a0.size : Int) ≤ 549755813888) = true := by simp; omega
  have h2 : G.spec_BytesToInts (bytesOf a0) = true := decide_eq_true (by rw [bytesOf_length]; omega)
  show cond _ (cond _ _ none) none = _
  rw [h1, h2]
  rfl
def OP_spec_LabelInts (f_spec_BytesToInts : (List Int) → (List Int)) (g_spec_BytesToInts : (List Int) → Bool) : Orac := (orcX 119 [.val (.slice 5 (.int .u8))] (fun d => g_spec_BytesToInts d.1) (fun d => [⟨(.slice 3 (.int .i64)), f_spec_BytesToInts d.1⟩]) nilO)
def O_spec_LabelInts : Orac := OP_spec_LabelInts N.spec_BytesToInts G.spec_BytesToInts
def spec_LabelInts_P {ρ : Type} (f_spec_BytesToInts : (List Int) → (List Int)) (g_spec_BytesToInts : (List Int) → Bool) (k : (List Int) → Option ρ) (a0 : ByteArray) : Option ρ := (cond (decide ((ByteArray.size a0 : Int) ≤ 549755813888)) (cond (g_spec_BytesToInts (bytesOf a0)) (k (f_spec_BytesToInts (bytesOf a0))) none) none)
theorem ok_spec_LabelInts : OracOk Tryz.prog sigs O_spec_LabelInts := (orcX_ok rfl rfl (fun d g => said_spec_BytesToInts d.1 g) nilO_ok)
def A_spec_LabelInts : Ann := fun b => ⟨[], []⟩
theorem aP_spec_LabelInts (f_spec_BytesToInts : (List Int) → (List Int)) (g_spec_BytesToInts : (List Int) → Bool) (n : Nat) (a0 : ByteArray) : absF tab sigs (OP_spec_LabelInts f_spec_BytesToInts g_spec_BytesToInts) A_spec_LabelInts Tryz.f118 [((.slice 3 (.int .i64)), (.own 0))] n [.val .str a0] = spec_LabelInts_P f_spec_BytesToInts g_spec_BytesToInts (fun r0 => some [⟨(.slice 3 (.int .i64)), r0⟩])  a0 := by kernel_rfl
theorem a_spec_LabelInts (n : Nat) (a0 : ByteArray) : absF tab sigs O_spec_LabelInts A_spec_LabelInts Tryz.f118 [((.slice 3 (.int .i64)), (.own 0))] n [.val .str a0] = spec_LabelInts (fun r0 => some [⟨(.slice 3 (.int .i64)), r0⟩])  a0 := aP_spec_LabelInts N.spec_BytesToInts G.spec_BytesToInts n a0
theorem said_spec_LabelInts (a0 : ByteArray) (g : G.spec_LabelInts a0 = true) : Said Tryz.prog sigs_118 118 [.val .str a0] [⟨(.slice 3 (.int .i64)), N.spec_LabelInts a0⟩] := said_len (T := tab) (A := A_spec_LabelInts) tabOk ok_spec_LabelInts tabOk.follows Tryz.func118 (by kernel_rfl) (by kernel_rfl) (fun hl => ⟨0, (a_spec_LabelInts 0 a0).trans (spec_LabelInts_ok (ρ := Ret) (fun r0 => some [⟨(.slice 3 (.int .i64)), r0⟩]) a0 g)⟩)
abbrev G.spec_EntryInts (e : TEntry) : Bool := decide (wE e ≤ 1048576)
abbrev N.spec_EntryInts (e : TEntry) : List Int := entryInts e
def spec_EntryInts_P_L0 {ρ : Type} (f_spec_LabelInts : ByteArray → (List Int)) (g_spec_LabelInts : ByteArray → Bool) (k : (List Int) → Option ρ) (L0 : Int → TEntry → (List Int) → Option ρ) (v0_0 : Int) (v0_1 : TEntry) (v0_2 : (List Int)) : Option ρ := (cond (decide (v0_0 < (List.length v0_1.2.2.2 : Int))) (cond (inRange v0_0 (List.length v0_1.2.2.2)) (cond (g_spec_LabelInts (List.getD v0_1.2.2.2 (Int.toNat v0_0) ByteArray.empty)) (cond (fit (List.length v0_2) (List.length (f_spec_LabelInts (List.getD v0_1.2.2.2 (Int.toNat v0_0) ByteArray.empty)))) (L0 (IntKind.wrap .i64 (v0_0 + (1 : Int))) v0_1 (List.append v0_2 (f_spec_LabelInts (List.getD v0_1.2.2.2 (Int.toNat v0_0) ByteArray.empty)))) none) none) none) (k v0_2))
def spec_EntryInts_P {ρ : Type} (f_spec_LabelInts : ByteArray → (List Int)) (g_spec_LabelInts : ByteArray → Bool) (k : (List Int) → Option ρ) (L0 : Int → TEntry → (List Int) → Option ρ) (a0 : TEntry) : Option ρ := (cond (g_spec_LabelInts a0.1) (cond (fit (List.length (f_spec_LabelInts a0.1)) (List.length [a0.2.1, a0.2.2.1, (List.length a0.2.2.2 : Int)])) (L0 (0 : Int) a0 (List.append (f_spec_LabelInts a0.1) [a0.2.1, a0.2.2.1, (List.length a0.2.2.2 : Int)])) none) none)
def spec_EntryInts_L0 {ρ : Type} (k : (List Int) → Option ρ) (L0 : Int → TEntry → (List Int) → Option ρ) (v0_0 : Int) (v0_1 : TEntry) (v0_2 : (List Int)) : Option ρ := spec_EntryInts_P_L0 N.spec_LabelInts G.spec_LabelInts k L0 v0_0 v0_1 v0_2
def spec_EntryInts {ρ : Type} (k : (List Int) → Option ρ) (L0 : Int → TEntry → (List Int) → Option ρ) (a0 : TEntry) : Option ρ := spec_EntryInts_P N.spec_LabelInts G.spec_LabelInts k L0 a0
theorem spec_EntryInts_ok {ρ : Type} (k : (List Int) → Option ρ) (a0 : TEntry) (l_a0 : (True ∧ (True ∧ (True ∧ lnL (fun _ => True) a0.2.2.2)))) (g : G.spec_EntryInts a0 = true) : ∃ n0, ∀ n, n0 ≤ n → ∀ (L0 : Nat → Int → TEntry → (List Int) → Option ρ) (h0 : ∀ ( m : Nat) (v0_0 : Int) (v0_1 : TEntry) (v0_2 : (List Int)), L0 (m + 1) v0_0 v0_1 v0_2 = spec_EntryInts_L0 k (L0 m) v0_0 v0_1 v0_2), spec_EntryInts k (L0 n) a0 = k (N.spec_EntryInts a0) := by
  unfold G.spec_EntryInts at g
  have hw : wE a0 ≤ 1048576 := of_decide_eq_true g
  have hw2 : a0.1.size + (a0.2.2.2.length + wsum ByteArray.size a0.2.2.2) ≤ 1048576 := hw
  have g1 : decide (a0.1.size ≤ 1048576) = true := by simp; omega
  have f1 : fit (labelInts a0.1).length 3 = true := fit_of (by rw [labelInts_len]; omega)
  refine ⟨a0.2.2.2.length + 1, fun n hn L0 h0 => ?_⟩
  show cond (decide (a0.1.size ≤ 1048576)) (cond (fit (labelInts a0.1).length 3) (L0 n 0 a0 (labelInts a0.1 ++ [a0.2.1, a0.2.2.1, (a0.2.2.2.length : Int)])) none) none = k (entryInts a0)
  rw [g1, f1]
  have key := raw_run0 (σ := List Int) (L := fun m i s => L0 m i a0 s) (R := fun i s c => spec_EntryInts_L0 k (fun i _ s => c i s) i a0 s) (fun m i s => h0 m i a0 s) a0.2.2.2.length (fun j s => s.length + wP (a0.2.2.2.drop j) ≤ 4194304) (fun j s => k (s ++ (a0.2.2.2.drop j).flatMap labelInts)) (fun j s c hj hI hc => ?_) (fun s c _ => ?_) hn (s := labelInts a0.1 ++ [a0.2.1, a0.2.2.1, (a0.2.2.2.length : Int)]) (by rw [List.drop_zero, List.length_append, labelInts_len]; unfold wP; simp; omega)
  · rw [List.drop_zero] at key
    exact key
  · have hd := drop_cons ByteArray.empty hj
    have hp : wP (a0.2.2.2.drop j) = 1 + (a0.2.2.2.getD j ByteArray.empty).size + wP (a0.2.2.2.drop (j + 1)) := by
      rw [hd]
      unfold wP
      rw [List.length_cons]
      show _ + (_ + _) = _
      omega
    have hm := wsum_mem (wt := ByteArray.size) (getD_mem (d := ByteArray.empty) hj)
    have g2 : decide ((a0.2.2.2.getD j ByteArray.empty).size ≤ 1048576) = true := by simp only [decide_eq_true_eq]; omega
    have e3 : fit s.length (labelInts (a0.2.2.2.getD j ByteArray.empty)).length = true := fit_of (by rw [labelInts_len]; omega)
    have := hc (s ++ labelInts (a0.2.2.2.getD j ByteArray.empty)) (by rw [List.length_append, labelInts_len]; omega)
    simp only [spec_EntryInts_L0, spec_EntryInts_P_L0, lt_nat, inRange_nat, decide_eq_true hj, cond_true, Int.toNat_natCast, G.spec_LabelInts, N.spec_LabelInts, g2, e3, wrap_succ (j := j) (by unfold big; omega), List.append_eq, this]
    rw [hd]
    simp
  · simp [spec_EntryInts_L0, spec_EntryInts_P_L0]
def OP_spec_EntryInts (f_spec_LabelInts : ByteArray → (List Int)) (g_spec_LabelInts : ByteArray → Bool) : Orac := (orcX 118 [.val .str] (fun d => g_spec_LabelInts d.1) (fun d => [⟨(.slice 3 (.int .i64)), f_spec_LabelInts d.1⟩]) nilO)
def O_spec_EntryInts : Orac := OP_spec_EntryInts N.spec_LabelInts G.spec_LabelInts
theorem ok_spec_EntryInts : OracOk Tryz.prog sigs O_spec_EntryInts := (orcX_ok rfl rfl (fun d g => said_spec_LabelInts d.1 g) nilO_ok)
def A_spec_EntryInts : Ann := fun b => cond (Nat.beq b 0) ⟨[(1, false), (3, true), (4, false)], [(1, false)]⟩ (⟨[], []⟩)
def S_spec_EntryInts_0 (v0_0 : Int) (v0_1 : TEntry) (v0_2 : (List Int)) : St := [(kT 1, some (.tv (.box 1 []))), (kT 3, some (.tv (.v (.slice 3 (.int .i64)) [] (.own 24)))), (kT 4, some (.tv (.v (.int .i64) v0_0 .no))), (kB 1, some (.box TyEntry v0_1 .no)), (kR 24, some (.row 3 (.int .i64) v0_2))]
noncomputable def L_P_spec_EntryInts_0 (f_spec_LabelInts : ByteArray → (List Int)) (g_spec_LabelInts : ByteArray → Bool) (n m : Nat) : St → Option Ret := loopOf tab sigs (OP_spec_EntryInts f_spec_LabelInts g_spec_LabelInts) A_spec_EntryInts Tryz.f117 [((.slice 3 (.int .i64)), (.own 0))] n (fun _ => 0) 0 m
noncomputable def L_spec_EntryInts_0 (n m : Nat) : St → Option Ret := L_P_spec_EntryInts_0 N.spec_LabelInts G.spec_LabelInts n m
theorem bP_spec_EntryInts_0 (f_spec_LabelInts : ByteArray → (List Int)) (g_spec_LabelInts : ByteArray → Bool) (n m : Nat) (v0_0 : Int) (v0_1 : TEntry) (v0_2 : (List Int)) : L_P_spec_EntryInts_0 f_spec_LabelInts g_spec_LabelInts n (m + 1) (S_spec_EntryInts_0 v0_0 v0_1 v0_2) = spec_EntryInts_P_L0 f_spec_LabelInts g_spec_LabelInts (fun r0 => some [⟨(.slice 3 (.int .i64)), r0⟩]) (fun v0_0 v0_1 v0_2 => L_P_spec_EntryInts_0 f_spec_LabelInts g_spec_LabelInts n m (S_spec_EntryInts_0 v0_0 v0_1 v0_2)) v0_0 v0_1 v0_2 := by kernel_rfl
theorem b_spec_EntryInts_0 (n m : Nat) (v0_0 : Int) (v0_1 : TEntry) (v0_2 : (List Int)) : L_spec_EntryInts_0 n (m + 1) (S_spec_EntryInts_0 v0_0 v0_1 v0_2) = spec_EntryInts_L0 (fun r0 => some [⟨(.slice 3 (.int .i64)), r0⟩]) (fun v0_0 v0_1 v0_2 => L_spec_EntryInts_0 n m (S_spec_EntryInts_0 v0_0 v0_1 v0_2)) v0_0 v0_1 v0_2 := bP_spec_EntryInts_0 N.spec_LabelInts G.spec_LabelInts n m v0_0 v0_1 v0_2
theorem aP_spec_EntryInts (f_spec_LabelInts : ByteArray → (List Int)) (g_spec_LabelInts : ByteArray → Bool) (n : Nat) (a0 : TEntry) : absF tab sigs (OP_spec_EntryInts f_spec_LabelInts g_spec_LabelInts) A_spec_EntryInts Tryz.f117 [((.slice 3 (.int .i64)), (.own 0))] n [.val TyEntry a0] = spec_EntryInts_P f_spec_LabelInts g_spec_LabelInts (fun r0 => some [⟨(.slice 3 (.int .i64)), r0⟩]) (fun v0_0 v0_1 v0_2 => L_P_spec_EntryInts_0 f_spec_LabelInts g_spec_LabelInts n n (S_spec_EntryInts_0 v0_0 v0_1 v0_2)) a0 := by kernel_rfl
theorem a_spec_EntryInts (n : Nat) (a0 : TEntry) : absF tab sigs O_spec_EntryInts A_spec_EntryInts Tryz.f117 [((.slice 3 (.int .i64)), (.own 0))] n [.val TyEntry a0] = spec_EntryInts (fun r0 => some [⟨(.slice 3 (.int .i64)), r0⟩]) (fun v0_0 v0_1 v0_2 => L_spec_EntryInts_0 n n (S_spec_EntryInts_0 v0_0 v0_1 v0_2)) a0 := aP_spec_EntryInts N.spec_LabelInts G.spec_LabelInts n a0
theorem said_spec_EntryInts (a0 : TEntry) (g : G.spec_EntryInts a0 = true) : Said Tryz.prog sigs_117 117 [.val TyEntry a0] [⟨(.slice 3 (.int .i64)), N.spec_EntryInts a0⟩] := said_len (T := tab) (A := A_spec_EntryInts) tabOk ok_spec_EntryInts tabOk.follows Tryz.func117 (by kernel_rfl) (by kernel_rfl) (fun hl => let ⟨n, hn⟩ := spec_EntryInts_ok (ρ := Ret) (fun r0 => some [⟨(.slice 3 (.int .i64)), r0⟩]) a0 hl.1 g; ⟨n, (a_spec_EntryInts n a0).trans (hn n (Nat.le_refl n) (fun  m v0_0 v0_1 v0_2 => L_spec_EntryInts_0 n  m (S_spec_EntryInts_0 v0_0 v0_1 v0_2)) (fun  m v0_0 v0_1 v0_2 => b_spec_EntryInts_0 n  m v0_0 v0_1 v0_2))⟩)
abbrev G.spec_LeafOf (e : TEntry) : Bool := decide (wE e ≤ 1048576)
abbrev N.spec_LeafOf (e : TEntry) : Int := leafOf e
def spec_LeafOf {ρ : Type} (k : Int → Option ρ) (a0 : TEntry) : Option ρ := (cond (G.spec_EntryInts a0) (cond (fit (List.length [(227 : Int)]) (List.length (N.spec_EntryInts a0))) (k (N.spec_Hash (List.append [(227 : Int)] (N.spec_EntryInts a0)))) none) none)
theorem spec_LeafOf_ok {ρ : Type} (k : Int → Option ρ) (a0 : TEntry) (l_a0 : (True ∧ (True ∧ (True ∧ lnL (fun _ => True) a0.2.2.2)))) (g : G.spec_LeafOf a0 = true) : spec_LeafOf k  a0 = k (N.spec_LeafOf a0) := by
  unfold G.spec_LeafOf at g
  have hw : wE a0 ≤ 1048576 := of_decide_eq_true g
  have f1 : fit 1 (entryInts a0).length = true := fit_of (by rw [entryInts_len]; omega)
  show cond (decide (wE a0 ≤ 1048576)) (cond (fit 1 (entryInts a0).length) _ none) none = _
  rw [g, f1]
  rfl
def OP_spec_LeafOf (f_spec_EntryInts : TEntry → (List Int)) (g_spec_EntryInts : TEntry → Bool) (f_spec_Hash : (List Int) → Int) : Orac := (orcX 61 [.val (.slice 3 (.int .i64))] (fun d => true) (fun d => [⟨(.int .i64), f_spec_Hash d.1⟩]) (orcX 117 [.val TyEntry] (fun d => g_spec_EntryInts d.1) (fun d => [⟨(.slice 3 (.int .i64)), f_spec_EntryInts d.1⟩]) nilO))
def O_spec_LeafOf : Orac := OP_spec_LeafOf N.spec_EntryInts G.spec_EntryInts N.spec_Hash
def spec_LeafOf_P {ρ : Type} (f_spec_EntryInts : TEntry → (List Int)) (g_spec_EntryInts : TEntry → Bool) (f_spec_Hash : (List Int) → Int) (k : Int → Option ρ) (a0 : TEntry) : Option ρ := (cond (g_spec_EntryInts a0) (cond (fit (List.length [(227 : Int)]) (List.length (f_spec_EntryInts a0))) (k (f_spec_Hash (List.append [(227 : Int)] (f_spec_EntryInts a0)))) none) none)
theorem ok_spec_LeafOf : OracOk Tryz.prog sigs O_spec_LeafOf := (orcX_ok rfl rfl (fun d g => said_spec_Hash d.1) (orcX_ok rfl rfl (fun d g => said_spec_EntryInts d.1 g) nilO_ok))
def A_spec_LeafOf : Ann := fun b => ⟨[], []⟩
theorem aP_spec_LeafOf (f_spec_EntryInts : TEntry → (List Int)) (g_spec_EntryInts : TEntry → Bool) (f_spec_Hash : (List Int) → Int) (n : Nat) (a0 : TEntry) : absF tab sigs (OP_spec_LeafOf f_spec_EntryInts g_spec_EntryInts f_spec_Hash) A_spec_LeafOf Tryz.f110 [((.int .i64), .no)] n [.val TyEntry a0] = spec_LeafOf_P f_spec_EntryInts g_spec_EntryInts f_spec_Hash (fun r0 => some [⟨(.int .i64), r0⟩])  a0 := by kernel_rfl
theorem a_spec_LeafOf (n : Nat) (a0 : TEntry) : absF tab sigs O_spec_LeafOf A_spec_LeafOf Tryz.f110 [((.int .i64), .no)] n [.val TyEntry a0] = spec_LeafOf (fun r0 => some [⟨(.int .i64), r0⟩])  a0 := aP_spec_LeafOf N.spec_EntryInts G.spec_EntryInts N.spec_Hash n a0
theorem said_spec_LeafOf (a0 : TEntry) (g : G.spec_LeafOf a0 = true) : Said Tryz.prog sigs_110 110 [.val TyEntry a0] [⟨(.int .i64), N.spec_LeafOf a0⟩] := said_len (T := tab) (A := A_spec_LeafOf) tabOk ok_spec_LeafOf tabOk.follows Tryz.func110 (by kernel_rfl) (by kernel_rfl) (fun hl => ⟨0, (a_spec_LeafOf 0 a0).trans (spec_LeafOf_ok (ρ := Ret) (fun r0 => some [⟨(.int .i64), r0⟩]) a0 hl.1 g)⟩)
abbrev G.spec_LeavesOf (l : List TEntry) : Bool := decide (wEs l ≤ 1048576)
abbrev N.spec_LeavesOf (l : List TEntry) : List Int := l.map leafOf
def spec_LeavesOf_L0 {ρ : Type} (k : (List Int) → Option ρ) (L0 : (List TEntry) → Int → (List Int) → Option ρ) (v0_0 : (List TEntry)) (v0_1 : Int) (v0_2 : (List Int)) : Option ρ := (cond (decide (v0_1 < (List.length v0_0 : Int))) (cond (inRange v0_1 (List.length v0_0)) (cond (G.spec_LeafOf (List.getD v0_0 (Int.toNat v0_1) (ByteArray.empty, ((0 : Int), ((0 : Int), []))))) (cond (fit (List.length v0_2) (List.length [(N.spec_LeafOf (List.getD v0_0 (Int.toNat v0_1) (ByteArray.empty, ((0 : Int), ((0 : Int), [])))))])) (L0 v0_0 (IntKind.wrap .i64 (v0_1 + (1 : Int))) (List.append v0_2 [(N.spec_LeafOf (List.getD v0_0 (Int.toNat v0_1) (ByteArray.empty, ((0 : Int), ((0 : Int), [])))))])) none) none) none) (k v0_2))
def spec_LeavesOf {ρ : Type} (k : (List Int) → Option ρ) (L0 : (List TEntry) → Int → (List Int) → Option ρ) (a0 : (List TEntry)) : Option ρ := (L0 a0 (0 : Int) ([] : (List Int)))
theorem spec_LeavesOf_ok {ρ : Type} (k : (List Int) → Option ρ) (a0 : (List TEntry)) (l_a0 : lnL (fun y => (True ∧ (True ∧ (True ∧ lnL (fun _ => True) y.2.2.2)))) a0) (g : G.spec_LeavesOf a0 = true) : ∃ n0, ∀ n, n0 ≤ n → ∀ (L0 : Nat → (List TEntry) → Int → (List Int) → Option ρ) (h0 : ∀ ( m : Nat) (v0_0 : (List TEntry)) (v0_1 : Int) (v0_2 : (List Int)), L0 (m + 1) v0_0 v0_1 v0_2 = spec_LeavesOf_L0 k (L0 m) v0_0 v0_1 v0_2), spec_LeavesOf k (L0 n) a0 = k (N.spec_LeavesOf a0) := by
  unfold G.spec_LeavesOf at g
  have hw : wEs a0 ≤ 1048576 := of_decide_eq_true g
  have hl : a0.length ≤ 1048576 := by unfold wEs at hw; omega
  refine ⟨a0.length + 1, fun n hn L0 h0 => ?_⟩
  refine raw_map (a := a0) (ByteArray.empty, (0, (0, []))) leafOf 1048576 (k := k) (L := fun m i out => L0 m a0 i out) (R := fun i out c => spec_LeavesOf_L0 k (fun _ i out => c i out) a0 i out) (fun m i s => h0 m a0 i s) (fun j out c hj ho => ?_) (fun out c => ?_) hl hn
  · have hm := wEs_mem (getD_mem (d := (ByteArray.empty, (0, (0, [])))) hj)
    have g2 : decide (wE (a0.getD j (ByteArray.empty, (0, (0, [])))) ≤ 1048576) = true := by simp only [decide_eq_true_eq]; omega
    have e3 : fit out.length 1 = true := fit_of (by omega)
    simp only [spec_LeavesOf_L0, lt_nat, inRange_nat, decide_eq_true hj, cond_true, Int.toNat_natCast, G.spec_LeafOf, g2, List.length_singleton, e3, wrap_succ (j := j) (by unfold big; omega), List.append_eq]
  · simp [spec_LeavesOf_L0]
def OP_spec_LeavesOf (f_spec_LeafOf : TEntry → Int) (g_spec_LeafOf : TEntry → Bool) : Orac := (orcX 110 [.val TyEntry] (fun d => g_spec_LeafOf d.1) (fun d => [⟨(.int .i64), f_spec_LeafOf d.1⟩]) nilO)
def O_spec_LeavesOf : Orac := OP_spec_LeavesOf N.spec_LeafOf G.spec_LeafOf
def spec_LeavesOf_P_L0 {ρ : Type} (f_spec_LeafOf : TEntry → Int) (g_spec_LeafOf : TEntry → Bool) (k : (List Int) → Option ρ) (L0 : (List TEntry) → Int → (List Int) → Option ρ) (v0_0 : (List TEntry)) (v0_1 : Int) (v0_2 : (List Int)) : Option ρ := (cond (decide (v0_1 < (List.length v0_0 : Int))) (cond (inRange v0_1 (List.length v0_0)) (cond (g_spec_LeafOf (List.getD v0_0 (Int.toNat v0_1) (ByteArray.empty, ((0 : Int), ((0 : Int), []))))) (cond (fit (List.length v0_2) (List.length [(f_spec_LeafOf (List.getD v0_0 (Int.toNat v0_1) (ByteArray.empty, ((0 : Int), ((0 : Int), [])))))])) (L0 v0_0 (IntKind.wrap .i64 (v0_1 + (1 : Int))) (List.append v0_2 [(f_spec_LeafOf (List.getD v0_0 (Int.toNat v0_1) (ByteArray.empty, ((0 : Int), ((0 : Int), [])))))])) none) none) none) (k v0_2))
def spec_LeavesOf_P {ρ : Type} (f_spec_LeafOf : TEntry → Int) (g_spec_LeafOf : TEntry → Bool) (k : (List Int) → Option ρ) (L0 : (List TEntry) → Int → (List Int) → Option ρ) (a0 : (List TEntry)) : Option ρ := (L0 a0 (0 : Int) ([] : (List Int)))
theorem ok_spec_LeavesOf : OracOk Tryz.prog sigs O_spec_LeavesOf := (orcX_ok rfl rfl (fun d g => said_spec_LeafOf d.1 g) nilO_ok)
def A_spec_LeavesOf : Ann := fun b => cond (Nat.beq b 0) ⟨[(0, false), (3, true), (4, false)], []⟩ (⟨[], []⟩)
def S_spec_LeavesOf_0 (v0_0 : (List TEntry)) (v0_1 : Int) (v0_2 : (List Int)) : St := [(kT 0, some (.tv (.v (.slice 100 TyEntry) v0_0 .no))), (kT 3, some (.tv (.v (.slice 3 (.int .i64)) [] (.own 24)))), (kT 4, some (.tv (.v (.int .i64) v0_1 .no))), (kR 24, some (.row 3 (.int .i64) v0_2))]
noncomputable def L_P_spec_LeavesOf_0 (f_spec_LeafOf : TEntry → Int) (g_spec_LeafOf : TEntry → Bool) (n m : Nat) : St → Option Ret := loopOf tab sigs (OP_spec_LeavesOf f_spec_LeafOf g_spec_LeafOf) A_spec_LeavesOf Tryz.f96 [((.slice 3 (.int .i64)), (.own 0))] n (fun _ => 0) 0 m
noncomputable def L_spec_LeavesOf_0 (n m : Nat) : St → Option Ret := L_P_spec_LeavesOf_0 N.spec_LeafOf G.spec_LeafOf n m
theorem bP_spec_LeavesOf_0 (f_spec_LeafOf : TEntry → Int) (g_spec_LeafOf : TEntry → Bool) (n m : Nat) (v0_0 : (List TEntry)) (v0_1 : Int) (v0_2 : (List Int)) : L_P_spec_LeavesOf_0 f_spec_LeafOf g_spec_LeafOf n (m + 1) (S_spec_LeavesOf_0 v0_0 v0_1 v0_2) = spec_LeavesOf_P_L0 f_spec_LeafOf g_spec_LeafOf (fun r0 => some [⟨(.slice 3 (.int .i64)), r0⟩]) (fun v0_0 v0_1 v0_2 => L_P_spec_LeavesOf_0 f_spec_LeafOf g_spec_LeafOf n m (S_spec_LeavesOf_0 v0_0 v0_1 v0_2)) v0_0 v0_1 v0_2 := by kernel_rfl
theorem b_spec_LeavesOf_0 (n m : Nat) (v0_0 : (List TEntry)) (v0_1 : Int) (v0_2 : (List Int)) : L_spec_LeavesOf_0 n (m + 1) (S_spec_LeavesOf_0 v0_0 v0_1 v0_2) = spec_LeavesOf_L0 (fun r0 => some [⟨(.slice 3 (.int .i64)), r0⟩]) (fun v0_0 v0_1 v0_2 => L_spec_LeavesOf_0 n m (S_spec_LeavesOf_0 v0_0 v0_1 v0_2)) v0_0 v0_1 v0_2 := bP_spec_LeavesOf_0 N.spec_LeafOf G.spec_LeafOf n m v0_0 v0_1 v0_2
theorem aP_spec_LeavesOf (f_spec_LeafOf : TEntry → Int) (g_spec_LeafOf : TEntry → Bool) (n : Nat) (a0 : (List TEntry)) : absF tab sigs (OP_spec_LeavesOf f_spec_LeafOf g_spec_LeafOf) A_spec_LeavesOf Tryz.f96 [((.slice 3 (.int .i64)), (.own 0))] n [.val (.slice 100 TyEntry) a0] = spec_LeavesOf_P f_spec_LeafOf g_spec_LeafOf (fun r0 => some [⟨(.slice 3 (.int .i64)), r0⟩]) (fun v0_0 v0_1 v0_2 => L_P_spec_LeavesOf_0 f_spec_LeafOf g_spec_LeafOf n n (S_spec_LeavesOf_0 v0_0 v0_1 v0_2)) a0 := by kernel_rfl
theorem a_spec_LeavesOf (n : Nat) (a0 : (List TEntry)) : absF tab sigs O_spec_LeavesOf A_spec_LeavesOf Tryz.f96 [((.slice 3 (.int .i64)), (.own 0))] n [.val (.slice 100 TyEntry) a0] = spec_LeavesOf (fun r0 => some [⟨(.slice 3 (.int .i64)), r0⟩]) (fun v0_0 v0_1 v0_2 => L_spec_LeavesOf_0 n n (S_spec_LeavesOf_0 v0_0 v0_1 v0_2)) a0 := aP_spec_LeavesOf N.spec_LeafOf G.spec_LeafOf n a0
theorem said_spec_LeavesOf (a0 : (List TEntry)) (g : G.spec_LeavesOf a0 = true) : Said Tryz.prog sigs_96 96 [.val (.slice 100 TyEntry) a0] [⟨(.slice 3 (.int .i64)), N.spec_LeavesOf a0⟩] := said_len (T := tab) (A := A_spec_LeavesOf) tabOk ok_spec_LeavesOf tabOk.follows Tryz.func96 (by kernel_rfl) (by kernel_rfl) (fun hl => let ⟨n, hn⟩ := spec_LeavesOf_ok (ρ := Ret) (fun r0 => some [⟨(.slice 3 (.int .i64)), r0⟩]) a0 hl.1 g; ⟨n, (a_spec_LeavesOf n a0).trans (hn n (Nat.le_refl n) (fun  m v0_0 v0_1 v0_2 => L_spec_LeavesOf_0 n  m (S_spec_LeavesOf_0 v0_0 v0_1 v0_2)) (fun  m v0_0 v0_1 v0_2 => b_spec_LeavesOf_0 n  m v0_0 v0_1 v0_2))⟩)
abbrev N.spec_NodeOf (a b : Int) : Int := nodeOf a b
def spec_NodeOf {ρ : Type} (k : Int → Option ρ) (a0 : Int) (a1 : Int) : Option ρ := (k (N.spec_Hash [(229 : Int), a0, a1]))
theorem spec_NodeOf_ok {ρ : Type} (k : Int → Option ρ) (a0 : Int) (a1 : Int) : spec_NodeOf k  a0 a1 = k (N.spec_NodeOf a0 a1) := by
  rfl
def OP_spec_NodeOf (f_spec_Hash : (List Int) → Int) : Orac := (orcX 61 [.val (.slice 3 (.int .i64))] (fun d => true) (fun d => [⟨(.int .i64), f_spec_Hash d.1⟩]) nilO)
def O_spec_NodeOf : Orac := OP_spec_NodeOf N.spec_Hash
def spec_NodeOf_P {ρ : Type} (f_spec_Hash : (List Int) → Int) (k : Int → Option ρ) (a0 : Int) (a1 : Int) : Option ρ := (k (f_spec_Hash [(229 : Int), a0, a1]))
theorem ok_spec_NodeOf : OracOk Tryz.prog sigs O_spec_NodeOf := (orcX_ok rfl rfl (fun d g => said_spec_Hash d.1) nilO_ok)
def A_spec_NodeOf : Ann := fun b => ⟨[], []⟩
theorem aP_spec_NodeOf (f_spec_Hash : (List Int) → Int) (n : Nat) (a0 : Int) (a1 : Int) : absF tab sigs (OP_spec_NodeOf f_spec_Hash) A_spec_NodeOf Tryz.f116 [((.int .i64), .no)] n [.val (.int .i64) a0, .val (.int .i64) a1] = spec_NodeOf_P f_spec_Hash (fun r0 => some [⟨(.int .i64), r0⟩])  a0 a1 := by kernel_rfl
theorem a_spec_NodeOf (n : Nat) (a0 : Int) (a1 : Int) : absF tab sigs O_spec_NodeOf A_spec_NodeOf Tryz.f116 [((.int .i64), .no)] n [.val (.int .i64) a0, .val (.int .i64) a1] = spec_NodeOf (fun r0 => some [⟨(.int .i64), r0⟩])  a0 a1 := aP_spec_NodeOf N.spec_Hash n a0 a1
theorem said_spec_NodeOf (a0 : Int) (a1 : Int) : Said Tryz.prog sigs_116 116 [.val (.int .i64) a0, .val (.int .i64) a1] [⟨(.int .i64), N.spec_NodeOf a0 a1⟩] := said_len (T := tab) (A := A_spec_NodeOf) tabOk ok_spec_NodeOf tabOk.follows Tryz.func116 (by kernel_rfl) (by kernel_rfl) (fun hl => ⟨0, (a_spec_NodeOf 0 a0 a1).trans (spec_NodeOf_ok (ρ := Ret) (fun r0 => some [⟨(.int .i64), r0⟩]) a0 a1)⟩)
abbrev G.spec_l10Up (l : List Int) : Bool := decide (l.length ≤ 1048576)
abbrev N.spec_l10Up (l : List Int) : List Int := up l
def spec_l10Up_P_L0 {ρ : Type} (f_spec_NodeOf : Int → Int → Int) (k : (List Int) → Option ρ) (L0 : (List Int) → Int → (List Int) → Option ρ) (v0_0 : (List Int)) (v0_1 : Int) (v0_2 : (List Int)) : Option ρ := (cond (decide (v0_1 < (List.length v0_0 : Int))) (cond (decide ((IntKind.wrap .i64 (v0_1 + (1 : Int))) < (List.length v0_0 : Int))) (cond (inRange v0_1 (List.length v0_0)) (cond (inRange (IntKind.wrap .i64 (v0_1 + (1 : Int))) (List.length v0_0)) (cond (fit (List.length v0_2) (List.length [(f_spec_NodeOf (List.getD v0_0 (Int.toNat v0_1) (0 : Int)) (List.getD v0_0 (Int.toNat (IntKind.wrap .i64 (v0_1 + (1 : Int)))) (0 : Int)))])) (L0 v0_0 (IntKind.wrap .i64 (v0_1 + (2 : Int))) (List.append v0_2 [(f_spec_NodeOf (List.getD v0_0 (Int.toNat v0_1) (0 : Int)) (List.getD v0_0 (Int.toNat (IntKind.wrap .i64 (v0_1 + (1 : Int)))) (0 : Int)))])) none) none) none) (cond (inRange v0_1 (List.length v0_0)) (cond (fit (List.length v0_2) (List.length [(List.getD v0_0 (Int.toNat v0_1) (0 : Int))])) (L0 v0_0 (IntKind.wrap .i64 (v0_1 + (2 : Int))) (List.append v0_2 [(List.getD v0_0 (Int.toNat v0_1) (0 : Int))])) none) none)) (k v0_2))
def spec_l10Up_P {ρ : Type} (f_spec_NodeOf : Int → Int → Int) (k : (List Int) → Option ρ) (L0 : (List Int) → Int → (List Int) → Option ρ) (a0 : (List Int)) : Option ρ := (L0 a0 (0 : Int) ([] : (List Int)))
def spec_l10Up_L0 {ρ : Type} (k : (List Int) → Option ρ) (L0 : (List Int) → Int → (List Int) → Option ρ) (v0_0 : (List Int)) (v0_1 : Int) (v0_2 : (List Int)) : Option ρ := spec_l10Up_P_L0 N.spec_NodeOf k L0 v0_0 v0_1 v0_2
def spec_l10Up {ρ : Type} (k : (List Int) → Option ρ) (L0 : (List Int) → Int → (List Int) → Option ρ) (a0 : (List Int)) : Option ρ := spec_l10Up_P N.spec_NodeOf k L0 a0
theorem spec_l10Up_ok {ρ : Type} (k : (List Int) → Option ρ) (a0 : (List Int)) (l_a0 : lnL (fun _ => True) a0) (g : G.spec_l10Up a0 = true) : ∃ n0, ∀ n, n0 ≤ n → ∀ (L0 : Nat → (List Int) → Int → (List Int) → Option ρ) (h0 : ∀ ( m : Nat) (v0_0 : (List Int)) (v0_1 : Int) (v0_2 : (List Int)), L0 (m + 1) v0_0 v0_1 v0_2 = spec_l10Up_L0 k (L0 m) v0_0 v0_1 v0_2), spec_l10Up k (L0 n) a0 = k (N.spec_l10Up a0) := by
  unfold G.spec_l10Up at g
  have hlen : a0.length ≤ 1048576 := of_decide_eq_true g
  refine ⟨a0.length + 1, fun n hn L0 h0 => ?_⟩
  refine (raw_meas (σ := Int × List Int) (L := fun m s => L0 m a0 s.1 s.2) (R := fun s c => spec_l10Up_L0 k (fun _ i out => c (i, out)) a0 s.1 s.2) (fun m s => h0 m a0 s.1 s.2) (fun s => 0 ≤ s.1 ∧ s.2.length + s.1 ≤ 2097160 ∧ s.1 ≤ a0.length + 1 ∧ s.2.length ≤ s.1) (fun s => a0.length - s.1.toNat) (fun s => k (s.2 ++ up (a0.drop s.1.toNat))) (fun s c hI hc => ?_) n (0, []) ⟨by simp, by simp, by simp; omega, by simp⟩ (by simp; omega)).trans (by simp)
  obtain ⟨j, out⟩ := s
  obtain ⟨hj0, hj1, hj2, hj3⟩ := hI
  dsimp only at hj0 hj1 hj2 hj3 hc ⊢
  obtain ⟨j, rfl⟩ := Int.eq_ofNat_of_zero_le hj0
  rw [Int.toNat_natCast]
  by_cases h : j < a0.length
  · have e1 : IntKind.wrap .i64 ((j : Int) + 2) = ((j + 2 : Nat) : Int) := by rw [wrap_id (by omega) (by omega)]; omega
    have e2 : IntKind.wrap .i64 ((j : Int) + 1) = ((j + 1 : Nat) : Int) := wrap_succ (by unfold big; omega)
    have e3 : fit out.length 1 = true := fit_of (by omega)
    by_cases h2 : j + 1 < a0.length
    · have hd : a0.drop j = a0.getD j 0 :: a0.getD (j + 1) 0 :: a0.drop (j + 2) := by rw [drop_cons 0 h, drop_cons 0 h2]
      have := hc (((j + 2 : Nat) : Int), out ++ [nodeOf (a0.getD j 0) (a0.getD (j + 1) 0)]) ⟨by simp; omega, by simp; omega, by simp; omega, by simp; omega⟩ (by simp; omega)
      dsimp only at this
      rw [Int.toNat_natCast] at this
      simp only [spec_l10Up_L0, spec_l10Up_P_L0, e1, e2, lt_nat, inRange_nat, decide_eq_true h, decide_eq_true h2, cond_true, Int.toNat_natCast, List.length_singleton, Int.natCast_one, e3, List.append_eq, this, hd]
      simp [up]
    · have hd : a0.drop j = [a0.getD j 0] := by rw [drop_cons 0 h, List.drop_of_length_le (by omega)]
      have := hc (((j + 2 : Nat) : Int), out ++ [a0.getD j 0]) ⟨by simp; omega, by simp; omega, by simp; omega, by simp; omega⟩ (by simp; omega)
      dsimp only at this
      rw [Int.toNat_natCast, List.drop_of_length_le (by omega)] at this
      simp only [spec_l10Up_L0, spec_l10Up_P_L0, e1, e2, lt_nat, inRange_nat, decide_eq_true h, decide_eq_false h2, cond_true, cond_false, Int.toNat_natCast, List.length_singleton, Int.natCast_one, e3, List.append_eq, this, hd]
      simp [up]
  · simp [spec_l10Up_L0, spec_l10Up_P_L0, lt_nat, h, List.drop_of_length_le (Nat.not_lt.1 h), up]
def OP_spec_l10Up (f_spec_NodeOf : Int → Int → Int) : Orac := (orcX 116 [.val (.int .i64), .val (.int .i64)] (fun d => true) (fun d => [⟨(.int .i64), f_spec_NodeOf d.1 d.2.1⟩]) nilO)
def O_spec_l10Up : Orac := OP_spec_l10Up N.spec_NodeOf
theorem ok_spec_l10Up : OracOk Tryz.prog sigs O_spec_l10Up := (orcX_ok rfl rfl (fun d g => said_spec_NodeOf d.1 d.2.1) nilO_ok)
def A_spec_l10Up : Ann := fun b => cond (Nat.beq b 0) ⟨[(0, false), (3, true), (4, false)], []⟩ (⟨[], []⟩)
def S_spec_l10Up_0 (v0_0 : (List Int)) (v0_1 : Int) (v0_2 : (List Int)) : St := [(kT 0, some (.tv (.v (.slice 3 (.int .i64)) v0_0 .no))), (kT 3, some (.tv (.v (.slice 3 (.int .i64)) [] (.own 24)))), (kT 4, some (.tv (.v (.int .i64) v0_1 .no))), (kR 24, some (.row 3 (.int .i64) v0_2))]
noncomputable def L_P_spec_l10Up_0 (f_spec_NodeOf : Int → Int → Int) (n m : Nat) : St → Option Ret := loopOf tab sigs (OP_spec_l10Up f_spec_NodeOf) A_spec_l10Up Tryz.f109 [((.slice 3 (.int .i64)), (.own 0))] n (fun _ => 0) 0 m
noncomputable def L_spec_l10Up_0 (n m : Nat) : St → Option Ret := L_P_spec_l10Up_0 N.spec_NodeOf n m
theorem bP_spec_l10Up_0 (f_spec_NodeOf : Int → Int → Int) (n m : Nat) (v0_0 : (List Int)) (v0_1 : Int) (v0_2 : (List Int)) : L_P_spec_l10Up_0 f_spec_NodeOf n (m + 1) (S_spec_l10Up_0 v0_0 v0_1 v0_2) = spec_l10Up_P_L0 f_spec_NodeOf (fun r0 => some [⟨(.slice 3 (.int .i64)), r0⟩]) (fun v0_0 v0_1 v0_2 => L_P_spec_l10Up_0 f_spec_NodeOf n m (S_spec_l10Up_0 v0_0 v0_1 v0_2)) v0_0 v0_1 v0_2 := by kernel_rfl
theorem b_spec_l10Up_0 (n m : Nat) (v0_0 : (List Int)) (v0_1 : Int) (v0_2 : (List Int)) : L_spec_l10Up_0 n (m + 1) (S_spec_l10Up_0 v0_0 v0_1 v0_2) = spec_l10Up_L0 (fun r0 => some [⟨(.slice 3 (.int .i64)), r0⟩]) (fun v0_0 v0_1 v0_2 => L_spec_l10Up_0 n m (S_spec_l10Up_0 v0_0 v0_1 v0_2)) v0_0 v0_1 v0_2 := bP_spec_l10Up_0 N.spec_NodeOf n m v0_0 v0_1 v0_2
theorem aP_spec_l10Up (f_spec_NodeOf : Int → Int → Int) (n : Nat) (a0 : (List Int)) : absF tab sigs (OP_spec_l10Up f_spec_NodeOf) A_spec_l10Up Tryz.f109 [((.slice 3 (.int .i64)), (.own 0))] n [.val (.slice 3 (.int .i64)) a0] = spec_l10Up_P f_spec_NodeOf (fun r0 => some [⟨(.slice 3 (.int .i64)), r0⟩]) (fun v0_0 v0_1 v0_2 => L_P_spec_l10Up_0 f_spec_NodeOf n n (S_spec_l10Up_0 v0_0 v0_1 v0_2)) a0 := by kernel_rfl
theorem a_spec_l10Up (n : Nat) (a0 : (List Int)) : absF tab sigs O_spec_l10Up A_spec_l10Up Tryz.f109 [((.slice 3 (.int .i64)), (.own 0))] n [.val (.slice 3 (.int .i64)) a0] = spec_l10Up (fun r0 => some [⟨(.slice 3 (.int .i64)), r0⟩]) (fun v0_0 v0_1 v0_2 => L_spec_l10Up_0 n n (S_spec_l10Up_0 v0_0 v0_1 v0_2)) a0 := aP_spec_l10Up N.spec_NodeOf n a0
theorem said_spec_l10Up (a0 : (List Int)) (g : G.spec_l10Up a0 = true) : Said Tryz.prog sigs_109 109 [.val (.slice 3 (.int .i64)) a0] [⟨(.slice 3 (.int .i64)), N.spec_l10Up a0⟩] := said_len (T := tab) (A := A_spec_l10Up) tabOk ok_spec_l10Up tabOk.follows Tryz.func109 (by kernel_rfl) (by kernel_rfl) (fun hl => let ⟨n, hn⟩ := spec_l10Up_ok (ρ := Ret) (fun r0 => some [⟨(.slice 3 (.int .i64)), r0⟩]) a0 hl.1 g; ⟨n, (a_spec_l10Up n a0).trans (hn n (Nat.le_refl n) (fun  m v0_0 v0_1 v0_2 => L_spec_l10Up_0 n  m (S_spec_l10Up_0 v0_0 v0_1 v0_2)) (fun  m v0_0 v0_1 v0_2 => b_spec_l10Up_0 n  m v0_0 v0_1 v0_2))⟩)
abbrev G.spec_TopOf (l : List Int) : Bool := decide (l.length ≤ 1048576)
abbrev N.spec_TopOf (l : List Int) : Int := topOf l
def spec_TopOf_L0 {ρ : Type} (k : Int → Option ρ) (L0 : (List Int) → Option ρ) (v0_0 : (List Int)) : Option ρ := (cond (decide ((List.length v0_0 : Int) > (1 : Int))) (cond (G.spec_l10Up v0_0) (L0 (N.spec_l10Up v0_0)) none) (cond (inRange (0 : Int) (List.length v0_0)) (k (List.getD v0_0 0 (0 : Int))) none))
def spec_TopOf {ρ : Type} (k : Int → Option ρ) (L0 : (List Int) → Option ρ) (a0 : (List Int)) : Option ρ := (cond ((List.length a0 : Int) == (0 : Int)) (k (N.spec_Hash [(229 : Int)])) (L0 a0))
theorem spec_TopOf_ok {ρ : Type} (k : Int → Option ρ) (a0 : (List Int)) (l_a0 : lnL (fun _ => True) a0) (g : G.spec_TopOf a0 = true) : ∃ n0, ∀ n, n0 ≤ n → ∀ (L0 : Nat → (List Int) → Option ρ) (h0 : ∀ ( m : Nat) (v0_0 : (List Int)), L0 (m + 1) v0_0 = spec_TopOf_L0 k (L0 m) v0_0), spec_TopOf k (L0 n) a0 = k (N.spec_TopOf a0) := by
  unfold G.spec_TopOf at g
  have hlen : a0.length ≤ 1048576 := of_decide_eq_true g
  refine ⟨a0.length + 1, fun n hn L0 h0 => ?_⟩
  unfold spec_TopOf
  show _ = k (topOf a0)
  unfold topOf
  by_cases h : a0.length = 0
  · simp [h]
  · have e1 : ((a0.length : Int) == 0) = false := by simpa using h
    rw [e1, decide_eq_false h]
    refine raw_meas (L := fun m s => L0 m s) (R := fun s c => spec_TopOf_L0 k c s) (fun m s => h0 m s) (fun s => 0 < s.length ∧ s.length ≤ 1048576) (fun s => s.length) (fun s => k (topN s.length s)) (fun s c hI hc => ?_) n a0 ⟨by omega, hlen⟩ (by omega)
    unfold spec_TopOf_L0
    by_cases h1 : 1 < s.length
    · have e2 : decide ((s.length : Int) > 1) = true := by simp; omega
      have hu := up_len s
      have e3 : decide (s.length ≤ 1048576) = true := by simpa using hI.2
      have := hc (up s) ⟨by omega, by omega⟩ (by omega)
      simp only [e2, e3, cond_true, this]
      congr 1
      obtain ⟨q, hq⟩ : ∃ q, s.length = q + 1 := ⟨s.length - 1, by omega⟩
      rw [hq]
      show _ = cond (decide (1 < s.length)) (topN q (up s)) _
      rw [decide_eq_true h1]
      exact topN_more _ _ _ (by omega) (by omega)
    · have e2 : decide ((s.length : Int) > 1) = false := by simp; omega
      have e3 : inRange 0 s.length = true := by unfold inRange; simp; omega
      have e4 : s.length = 1 := by omega
      rw [e4] at e3
      simp [e2, e3, e4, topN]
def OP_spec_TopOf (f_spec_Hash : (List Int) → Int) (f_spec_l10Up : (List Int) → (List Int)) (g_spec_l10Up : (List Int) → Bool) : Orac := (orcX 109 [.val (.slice 3 (.int .i64))] (fun d => g_spec_l10Up d.1) (fun d => [⟨(.slice 3 (.int .i64)), f_spec_l10Up d.1⟩]) (orcX 61 [.val (.slice 3 (.int .i64))] (fun d => true) (fun d => [⟨(.int .i64), f_spec_Hash d.1⟩]) nilO))
def O_spec_TopOf : Orac := OP_spec_TopOf N.spec_Hash N.spec_l10Up G.spec_l10Up
def spec_TopOf_P_L0 {ρ : Type} (f_spec_Hash : (List Int) → Int) (f_spec_l10Up : (List Int) → (List Int)) (g_spec_l10Up : (List Int) → Bool) (k : Int → Option ρ) (L0 : (List Int) → Option ρ) (v0_0 : (List Int)) : Option ρ := (cond (decide ((List.length v0_0 : Int) > (1 : Int))) (cond (g_spec_l10Up v0_0) (L0 (f_spec_l10Up v0_0)) none) (cond (inRange (0 : Int) (List.length v0_0)) (k (List.getD v0_0 0 (0 : Int))) none))
def spec_TopOf_P {ρ : Type} (f_spec_Hash : (List Int) → Int) (f_spec_l10Up : (List Int) → (List Int)) (g_spec_l10Up : (List Int) → Bool) (k : Int → Option ρ) (L0 : (List Int) → Option ρ) (a0 : (List Int)) : Option ρ := (cond ((List.length a0 : Int) == (0 : Int)) (k (f_spec_Hash [(229 : Int)])) (L0 a0))
theorem ok_spec_TopOf : OracOk Tryz.prog sigs O_spec_TopOf := (orcX_ok rfl rfl (fun d g => said_spec_l10Up d.1 g) (orcX_ok rfl rfl (fun d g => said_spec_Hash d.1) nilO_ok))
def A_spec_TopOf : Ann := fun b => cond (Nat.beq b 0) ⟨[(3, false)], []⟩ (⟨[], []⟩)
def S_spec_TopOf_0 (v0_0 : (List Int)) : St := [(kT 3, some (.tv (.v (.slice 3 (.int .i64)) v0_0 .no)))]
noncomputable def L_P_spec_TopOf_0 (f_spec_Hash : (List Int) → Int) (f_spec_l10Up : (List Int) → (List Int)) (g_spec_l10Up : (List Int) → Bool) (n m : Nat) : St → Option Ret := loopOf tab sigs (OP_spec_TopOf f_spec_Hash f_spec_l10Up g_spec_l10Up) A_spec_TopOf Tryz.f95 [((.int .i64), .no)] n (fun _ => 0) 0 m
noncomputable def L_spec_TopOf_0 (n m : Nat) : St → Option Ret := L_P_spec_TopOf_0 N.spec_Hash N.spec_l10Up G.spec_l10Up n m
theorem bP_spec_TopOf_0 (f_spec_Hash : (List Int) → Int) (f_spec_l10Up : (List Int) → (List Int)) (g_spec_l10Up : (List Int) → Bool) (n m : Nat) (v0_0 : (List Int)) : L_P_spec_TopOf_0 f_spec_Hash f_spec_l10Up g_spec_l10Up n (m + 1) (S_spec_TopOf_0 v0_0) = spec_TopOf_P_L0 f_spec_Hash f_spec_l10Up g_spec_l10Up (fun r0 => some [⟨(.int .i64), r0⟩]) (fun v0_0 => L_P_spec_TopOf_0 f_spec_Hash f_spec_l10Up g_spec_l10Up n m (S_spec_TopOf_0 v0_0)) v0_0 := by kernel_rfl
theorem b_spec_TopOf_0 (n m : Nat) (v0_0 : (List Int)) : L_spec_TopOf_0 n (m + 1) (S_spec_TopOf_0 v0_0) = spec_TopOf_L0 (fun r0 => some [⟨(.int .i64), r0⟩]) (fun v0_0 => L_spec_TopOf_0 n m (S_spec_TopOf_0 v0_0)) v0_0 := bP_spec_TopOf_0 N.spec_Hash N.spec_l10Up G.spec_l10Up n m v0_0
theorem aP_spec_TopOf (f_spec_Hash : (List Int) → Int) (f_spec_l10Up : (List Int) → (List Int)) (g_spec_l10Up : (List Int) → Bool) (n : Nat) (a0 : (List Int)) : absF tab sigs (OP_spec_TopOf f_spec_Hash f_spec_l10Up g_spec_l10Up) A_spec_TopOf Tryz.f95 [((.int .i64), .no)] n [.val (.slice 3 (.int .i64)) a0] = spec_TopOf_P f_spec_Hash f_spec_l10Up g_spec_l10Up (fun r0 => some [⟨(.int .i64), r0⟩]) (fun v0_0 => L_P_spec_TopOf_0 f_spec_Hash f_spec_l10Up g_spec_l10Up n n (S_spec_TopOf_0 v0_0)) a0 := by kernel_rfl
theorem a_spec_TopOf (n : Nat) (a0 : (List Int)) : absF tab sigs O_spec_TopOf A_spec_TopOf Tryz.f95 [((.int .i64), .no)] n [.val (.slice 3 (.int .i64)) a0] = spec_TopOf (fun r0 => some [⟨(.int .i64), r0⟩]) (fun v0_0 => L_spec_TopOf_0 n n (S_spec_TopOf_0 v0_0)) a0 := aP_spec_TopOf N.spec_Hash N.spec_l10Up G.spec_l10Up n a0
theorem said_spec_TopOf (a0 : (List Int)) (g : G.spec_TopOf a0 = true) : Said Tryz.prog sigs_95 95 [.val (.slice 3 (.int .i64)) a0] [⟨(.int .i64), N.spec_TopOf a0⟩] := said_len (T := tab) (A := A_spec_TopOf) tabOk ok_spec_TopOf tabOk.follows Tryz.func95 (by kernel_rfl) (by kernel_rfl) (fun hl => let ⟨n, hn⟩ := spec_TopOf_ok (ρ := Ret) (fun r0 => some [⟨(.int .i64), r0⟩]) a0 hl.1 g; ⟨n, (a_spec_TopOf n a0).trans (hn n (Nat.le_refl n) (fun  m v0_0 => L_spec_TopOf_0 n  m (S_spec_TopOf_0 v0_0)) (fun  m v0_0 => b_spec_TopOf_0 n  m v0_0))⟩)
abbrev N.spec_l10Root (n top : Int) : Int := rootFrom n top
def spec_l10Root {ρ : Type} (k : Int → Option ρ) (a0 : Int) (a1 : Int) : Option ρ := (k (N.spec_Hash [(231 : Int), a0, a1]))
theorem spec_l10Root_ok {ρ : Type} (k : Int → Option ρ) (a0 : Int) (a1 : Int) : spec_l10Root k  a0 a1 = k (N.spec_l10Root a0 a1) := by
  rfl
def OP_spec_l10Root (f_spec_Hash : (List Int) → Int) : Orac := (orcX 61 [.val (.slice 3 (.int .i64))] (fun d => true) (fun d => [⟨(.int .i64), f_spec_Hash d.1⟩]) nilO)
def O_spec_l10Root : Orac := OP_spec_l10Root N.spec_Hash
def spec_l10Root_P {ρ : Type} (f_spec_Hash : (List Int) → Int) (k : Int → Option ρ) (a0 : Int) (a1 : Int) : Option ρ := (k (f_spec_Hash [(231 : Int), a0, a1]))
theorem ok_spec_l10Root : OracOk Tryz.prog sigs O_spec_l10Root := (orcX_ok rfl rfl (fun d g => said_spec_Hash d.1) nilO_ok)
def A_spec_l10Root : Ann := fun b => ⟨[], []⟩
theorem aP_spec_l10Root (f_spec_Hash : (List Int) → Int) (n : Nat) (a0 : Int) (a1 : Int) : absF tab sigs (OP_spec_l10Root f_spec_Hash) A_spec_l10Root Tryz.f94 [((.int .i64), .no)] n [.val (.int .i64) a0, .val (.int .i64) a1] = spec_l10Root_P f_spec_Hash (fun r0 => some [⟨(.int .i64), r0⟩])  a0 a1 := by kernel_rfl
theorem a_spec_l10Root (n : Nat) (a0 : Int) (a1 : Int) : absF tab sigs O_spec_l10Root A_spec_l10Root Tryz.f94 [((.int .i64), .no)] n [.val (.int .i64) a0, .val (.int .i64) a1] = spec_l10Root (fun r0 => some [⟨(.int .i64), r0⟩])  a0 a1 := aP_spec_l10Root N.spec_Hash n a0 a1
theorem said_spec_l10Root (a0 : Int) (a1 : Int) : Said Tryz.prog sigs_94 94 [.val (.int .i64) a0, .val (.int .i64) a1] [⟨(.int .i64), N.spec_l10Root a0 a1⟩] := said_len (T := tab) (A := A_spec_l10Root) tabOk ok_spec_l10Root tabOk.follows Tryz.func94 (by kernel_rfl) (by kernel_rfl) (fun hl => ⟨0, (a_spec_l10Root 0 a0 a1).trans (spec_l10Root_ok (ρ := Ret) (fun r0 => some [⟨(.int .i64), r0⟩]) a0 a1)⟩)
abbrev G.spec_RootOf (l : List TEntry) : Bool := decide (wEs l ≤ 1048576)
abbrev N.spec_RootOf (l : List TEntry) : Int := rootOf l
def spec_RootOf {ρ : Type} (k : Int → Option ρ) (a0 : (List TEntry)) : Option ρ := (cond (G.spec_LeavesOf a0) (cond (G.spec_TopOf (N.spec_LeavesOf a0)) (k (N.spec_l10Root (List.length a0 : Int) (N.spec_TopOf (N.spec_LeavesOf a0)))) none) none)
theorem spec_RootOf_ok {ρ : Type} (k : Int → Option ρ) (a0 : (List TEntry)) (l_a0 : lnL (fun y => (True ∧ (True ∧ (True ∧ lnL (fun _ => True) y.2.2.2)))) a0) (g : G.spec_RootOf a0 = true) : spec_RootOf k  a0 = k (N.spec_RootOf a0) := by
  unfold G.spec_RootOf at g
  have hw : wEs a0 ≤ 1048576 := of_decide_eq_true g
  have hl : decide ((a0.map leafOf).length ≤ 1048576) = true := by unfold wEs at hw; simp; omega
  show cond (decide (wEs a0 ≤ 1048576)) (cond (decide ((a0.map leafOf).length ≤ 1048576)) _ none) none = _
  rw [g, hl]
  rfl
def OP_spec_RootOf (f_spec_LeavesOf : (List TEntry) → (List Int)) (g_spec_LeavesOf : (List TEntry) → Bool) (f_spec_TopOf : (List Int) → Int) (g_spec_TopOf : (List Int) → Bool) (f_spec_l10Root : Int → Int → Int) : Orac := (orcX 94 [.val (.int .i64), .val (.int .i64)] (fun d => true) (fun d => [⟨(.int .i64), f_spec_l10Root d.1 d.2.1⟩]) (orcX 95 [.val (.slice 3 (.int .i64))] (fun d => g_spec_TopOf d.1) (fun d => [⟨(.int .i64), f_spec_TopOf d.1⟩]) (orcX 96 [.val (.slice 100 TyEntry)] (fun d => g_spec_LeavesOf d.1) (fun d => [⟨(.slice 3 (.int .i64)), f_spec_LeavesOf d.1⟩]) nilO)))
def O_spec_RootOf : Orac := OP_spec_RootOf N.spec_LeavesOf G.spec_LeavesOf N.spec_TopOf G.spec_TopOf N.spec_l10Root
def spec_RootOf_P {ρ : Type} (f_spec_LeavesOf : (List TEntry) → (List Int)) (g_spec_LeavesOf : (List TEntry) → Bool) (f_spec_TopOf : (List Int) → Int) (g_spec_TopOf : (List Int) → Bool) (f_spec_l10Root : Int → Int → Int) (k : Int → Option ρ) (a0 : (List TEntry)) : Option ρ := (cond (g_spec_LeavesOf a0) (cond (g_spec_TopOf (f_spec_LeavesOf a0)) (k (f_spec_l10Root (List.length a0 : Int) (f_spec_TopOf (f_spec_LeavesOf a0)))) none) none)
theorem ok_spec_RootOf : OracOk Tryz.prog sigs O_spec_RootOf := (orcX_ok rfl rfl (fun d g => said_spec_l10Root d.1 d.2.1) (orcX_ok rfl rfl (fun d g => said_spec_TopOf d.1 g) (orcX_ok rfl rfl (fun d g => said_spec_LeavesOf d.1 g) nilO_ok)))
def A_spec_RootOf : Ann := fun b => ⟨[], []⟩
theorem aP_spec_RootOf (f_spec_LeavesOf : (List TEntry) → (List Int)) (g_spec_LeavesOf : (List TEntry) → Bool) (f_spec_TopOf : (List Int) → Int) (g_spec_TopOf : (List Int) → Bool) (f_spec_l10Root : Int → Int → Int) (n : Nat) (a0 : (List TEntry)) : absF tab sigs (OP_spec_RootOf f_spec_LeavesOf g_spec_LeavesOf f_spec_TopOf g_spec_TopOf f_spec_l10Root) A_spec_RootOf Tryz.f81 [((.int .i64), .no)] n [.val (.slice 100 TyEntry) a0] = spec_RootOf_P f_spec_LeavesOf g_spec_LeavesOf f_spec_TopOf g_spec_TopOf f_spec_l10Root (fun r0 => some [⟨(.int .i64), r0⟩])  a0 := by kernel_rfl
theorem a_spec_RootOf (n : Nat) (a0 : (List TEntry)) : absF tab sigs O_spec_RootOf A_spec_RootOf Tryz.f81 [((.int .i64), .no)] n [.val (.slice 100 TyEntry) a0] = spec_RootOf (fun r0 => some [⟨(.int .i64), r0⟩])  a0 := aP_spec_RootOf N.spec_LeavesOf G.spec_LeavesOf N.spec_TopOf G.spec_TopOf N.spec_l10Root n a0
theorem said_spec_RootOf (a0 : (List TEntry)) (g : G.spec_RootOf a0 = true) : Said Tryz.prog sigs_81 81 [.val (.slice 100 TyEntry) a0] [⟨(.int .i64), N.spec_RootOf a0⟩] := said_len (T := tab) (A := A_spec_RootOf) tabOk ok_spec_RootOf tabOk.follows Tryz.func81 (by kernel_rfl) (by kernel_rfl) (fun hl => ⟨0, (a_spec_RootOf 0 a0).trans (spec_RootOf_ok (ρ := Ret) (fun r0 => some [⟨(.int .i64), r0⟩]) a0 hl.1 g)⟩)
abbrev G.spec_l6Copy (a : TKeys) : Bool := decide (wK a ≤ 1048576)
abbrev N.spec_l6Copy (a : TKeys) : TKeys := a
def spec_l6Copy {ρ : Type} (k : TKeys → Option ρ) (a0 : TKeys) : Option ρ := (cond (fit (List.length ([] : (List Int))) (List.length a0.1)) (k ((List.append ([] : (List Int)) a0.1), a0.2)) none)
theorem spec_l6Copy_ok {ρ : Type} (k : TKeys → Option ρ) (a0 : TKeys) (l_a0 : (lnL (fun _ => True) a0.1 ∧ True)) (g : G.spec_l6Copy a0 = true) : spec_l6Copy k  a0 = k (N.spec_l6Copy a0) := by
  unfold G.spec_l6Copy at g
  have h : wK a0 ≤ 1048576 := of_decide_eq_true g
  have h1 : fit (List.length ([] : List Int)) (List.length a0.1) = true := fit_of (by unfold wK at h; simp; omega)
  unfold spec_l6Copy
  rw [h1]
  rfl
def O_spec_l6Copy : Orac := nilO
theorem ok_spec_l6Copy : OracOk Tryz.prog sigs O_spec_l6Copy := nilO_ok
def A_spec_l6Copy : Ann := fun b => ⟨[], []⟩
theorem a_spec_l6Copy (n : Nat) (a0 : TKeys) : absF tab sigs O_spec_l6Copy A_spec_l6Copy Tryz.f80 [((.pair (.slice 3 (.int .i64)) (.int .i64)), (.pair (.own 0) .no))] n [.val (.pair (.slice 3 (.int .i64)) (.int .i64)) a0] = spec_l6Copy (fun r0 => some [⟨(.pair (.slice 3 (.int .i64)) (.int .i64)), r0⟩])  a0 := by kernel_rfl
theorem said_spec_l6Copy (a0 : TKeys) (g : G.spec_l6Copy a0 = true) : Said Tryz.prog sigs_80 80 [.val (.pair (.slice 3 (.int .i64)) (.int .i64)) a0] [⟨(.pair (.slice 3 (.int .i64)) (.int .i64)), N.spec_l6Copy a0⟩] := said_len (T := tab) (A := A_spec_l6Copy) tabOk ok_spec_l6Copy tabOk.follows Tryz.func80 (by kernel_rfl) (by kernel_rfl) (fun hl => ⟨0, (a_spec_l6Copy 0 a0).trans (spec_l6Copy_ok (ρ := Ret) (fun r0 => some [⟨(.pair (.slice 3 (.int .i64)) (.int .i64)), r0⟩]) a0 hl.1 g)⟩)
abbrev N.spec_IsKeys (k : TKeys) : Bool := isKeys k
def spec_IsKeys_P_L0 {ρ : Type} (f_spec_l1In : Int → Int → Int → Bool) (k : Bool → Option ρ) (L0 : Int → TKeys → Option ρ) (v0_0 : Int) (v0_1 : TKeys) : Option ρ := (cond (decide (v0_0 < (List.length v0_1.1 : Int))) (cond (inRange v0_0 (List.length v0_1.1)) (cond (!(f_spec_l1In (List.getD v0_1.1 (Int.toNat v0_0) (0 : Int)) (1 : Int) (99 : Int))) (k false) (cond (decide (v0_0 > (0 : Int))) (cond (inRange (IntKind.wrap .i64 (v0_0 - (1 : Int))) (List.length v0_1.1)) (cond (inRange v0_0 (List.length v0_1.1)) (cond (decide ((List.getD v0_1.1 (Int.toNat (IntKind.wrap .i64 (v0_0 - (1 : Int)))) (0 : Int)) ≥ (List.getD v0_1.1 (Int.toNat v0_0) (0 : Int)))) (k false) (L0 (IntKind.wrap .i64 (v0_0 + (1 : Int))) v0_1)) none) none) (L0 (IntKind.wrap .i64 (v0_0 + (1 : Int))) v0_1))) none) (cond (f_spec_l1In (List.length v0_1.1 : Int) (1 : Int) (4 : Int)) (k (f_spec_l1In v0_1.2 (1 : Int) (List.length v0_1.1 : Int))) (k false)))
def spec_IsKeys_P {ρ : Type} (f_spec_l1In : Int → Int → Int → Bool) (k : Bool → Option ρ) (L0 : Int → TKeys → Option ρ) (a0 : TKeys) : Option ρ := (L0 (0 : Int) a0)
def spec_IsKeys_L0 {ρ : Type} (k : Bool → Option ρ) (L0 : Int → TKeys → Option ρ) (v0_0 : Int) (v0_1 : TKeys) : Option ρ := spec_IsKeys_P_L0 N.spec_l1In k L0 v0_0 v0_1
def spec_IsKeys {ρ : Type} (k : Bool → Option ρ) (L0 : Int → TKeys → Option ρ) (a0 : TKeys) : Option ρ := spec_IsKeys_P N.spec_l1In k L0 a0
theorem spec_IsKeys_ok {ρ : Type} (k : Bool → Option ρ) (a0 : TKeys) (l_a0 : (lnL (fun _ => True) a0.1 ∧ True)) : ∃ n0, ∀ n, n0 ≤ n → ∀ (L0 : Nat → Int → TKeys → Option ρ) (h0 : ∀ ( m : Nat) (v0_0 : Int) (v0_1 : TKeys), L0 (m + 1) v0_0 v0_1 = spec_IsKeys_L0 k (L0 m) v0_0 v0_1), spec_IsKeys k (L0 n) a0 = k (N.spec_IsKeys a0) := by
  refine ⟨a0.1.length + 1, fun n hn L0 h0 => ?_⟩
  have hb : a0.1.length ≤ 9223372036854775807 := l_a0.1.1
  have hrun := raw_run0 (σ := Unit) (s := ()) (L := fun m i _ => L0 m i a0) (R := fun i _ c => spec_IsKeys_L0 k (fun i _ => c i ()) i a0) (fun m i s => h0 m i a0) a0.1.length (fun _ _ => True) (fun j _ => cond (keysFrom a0.1 (a0.1.length - j) j) (k (inR a0.1.length 1 4 && inR a0.2 1 a0.1.length)) (k false)) (fun j s c hj _ hc => ?_) (fun s c _ => ?_) hn trivial
  · refine hrun.trans ?_
    show _ = k (isKeys a0)
    rw [Nat.sub_zero, isKeys_eq]
    cases keysFrom a0.1 a0.1.length 0 <;> simp
  · obtain ⟨m, hm⟩ : ∃ m, a0.1.length - j = m + 1 := ⟨a0.1.length - j - 1, by omega⟩
    have hm2 : a0.1.length - (j + 1) = m := by omega
    have hc' := hc () trivial
    rw [hm2] at hc'
    rw [hm]
    unfold keysFrom
    by_cases h0j : j = 0
    · subst h0j
      simp only [spec_IsKeys_L0, spec_IsKeys_P_L0, lt_nat, inRange_nat, decide_eq_true hj, cond_true, Int.toNat_natCast, N.spec_l1In, wrap_succ (j := 0) (by unfold big; omega), hc', isKey]
      cases inR (a0.1.getD 0 0) 1 99 <;> simp
    · have e1 : decide ((j : Int) > 0) = true := by simp; omega
      have e2 : IntKind.wrap .i64 ((j : Int) - 1) = ((j - 1 : Nat) : Int) := by rw [wrap_id (by omega) (by omega)]; omega
      have e3 : j - 1 < a0.1.length := by omega
      have e4 : decide (a0.1.getD (j - 1) 0 ≥ a0.1.getD j 0) = !decide (a0.1.getD (j - 1) 0 < a0.1.getD j 0) := by rw [← decide_not]; simp
      simp only [spec_IsKeys_L0, spec_IsKeys_P_L0, lt_nat, inRange_nat, decide_eq_true hj, cond_true, Int.toNat_natCast, N.spec_l1In, e1, e2, e4, decide_eq_true e3, wrap_succ (j := j) (by unfold big; omega), hc', decide_eq_false h0j, isKey]
      cases inR (a0.1.getD j 0) 1 99 <;> cases decide (a0.1.getD (j - 1) 0 < a0.1.getD j 0) <;> simp
  · rw [Nat.sub_self]
    simp only [spec_IsKeys_L0, spec_IsKeys_P_L0, keysFrom, lt_nat, Nat.lt_irrefl, decide_false, cond_false, cond_true, N.spec_l1In]
    cases inR (a0.1.length : Int) 1 4 <;> rfl
def OP_spec_IsKeys (f_spec_l1In : Int → Int → Int → Bool) : Orac := (orcX 59 [.val (.int .i64), .val (.int .i64), .val (.int .i64)] (fun d => true) (fun d => [⟨.bool, f_spec_l1In d.1 d.2.1 d.2.2.1⟩]) nilO)
def O_spec_IsKeys : Orac := OP_spec_IsKeys N.spec_l1In
theorem ok_spec_IsKeys : OracOk Tryz.prog sigs O_spec_IsKeys := (orcX_ok rfl rfl (fun d g => said_spec_l1In d.1 d.2.1 d.2.2.1) nilO_ok)
def A_spec_IsKeys : Ann := fun b => cond (Nat.beq b 0) ⟨[(1, false), (3, false)], [(1, false)]⟩ (⟨[], []⟩)
def S_spec_IsKeys_0 (v0_0 : Int) (v0_1 : TKeys) : St := [(kT 1, some (.tv (.box 1 []))), (kT 3, some (.tv (.v (.int .i64) v0_0 .no))), (kB 1, some (.box (.pair (.slice 3 (.int .i64)) (.int .i64)) v0_1 .no))]
noncomputable def L_P_spec_IsKeys_0 (f_spec_l1In : Int → Int → Int → Bool) (n m : Nat) : St → Option Ret := loopOf tab sigs (OP_spec_IsKeys f_spec_l1In) A_spec_IsKeys Tryz.f60 [(.bool, .no)] n (fun _ => 0) 0 m
noncomputable def L_spec_IsKeys_0 (n m : Nat) : St → Option Ret := L_P_spec_IsKeys_0 N.spec_l1In n m
theorem bP_spec_IsKeys_0 (f_spec_l1In : Int → Int → Int → Bool) (n m : Nat) (v0_0 : Int) (v0_1 : TKeys) : L_P_spec_IsKeys_0 f_spec_l1In n (m + 1) (S_spec_IsKeys_0 v0_0 v0_1) = spec_IsKeys_P_L0 f_spec_l1In (fun r0 => some [⟨.bool, r0⟩]) (fun v0_0 v0_1 => L_P_spec_IsKeys_0 f_spec_l1In n m (S_spec_IsKeys_0 v0_0 v0_1)) v0_0 v0_1 := by kernel_rfl
theorem b_spec_IsKeys_0 (n m : Nat) (v0_0 : Int) (v0_1 : TKeys) : L_spec_IsKeys_0 n (m + 1) (S_spec_IsKeys_0 v0_0 v0_1) = spec_IsKeys_L0 (fun r0 => some [⟨.bool, r0⟩]) (fun v0_0 v0_1 => L_spec_IsKeys_0 n m (S_spec_IsKeys_0 v0_0 v0_1)) v0_0 v0_1 := bP_spec_IsKeys_0 N.spec_l1In n m v0_0 v0_1
theorem aP_spec_IsKeys (f_spec_l1In : Int → Int → Int → Bool) (n : Nat) (a0 : TKeys) : absF tab sigs (OP_spec_IsKeys f_spec_l1In) A_spec_IsKeys Tryz.f60 [(.bool, .no)] n [.val (.pair (.slice 3 (.int .i64)) (.int .i64)) a0] = spec_IsKeys_P f_spec_l1In (fun r0 => some [⟨.bool, r0⟩]) (fun v0_0 v0_1 => L_P_spec_IsKeys_0 f_spec_l1In n n (S_spec_IsKeys_0 v0_0 v0_1)) a0 := by kernel_rfl
theorem a_spec_IsKeys (n : Nat) (a0 : TKeys) : absF tab sigs O_spec_IsKeys A_spec_IsKeys Tryz.f60 [(.bool, .no)] n [.val (.pair (.slice 3 (.int .i64)) (.int .i64)) a0] = spec_IsKeys (fun r0 => some [⟨.bool, r0⟩]) (fun v0_0 v0_1 => L_spec_IsKeys_0 n n (S_spec_IsKeys_0 v0_0 v0_1)) a0 := aP_spec_IsKeys N.spec_l1In n a0
theorem said_spec_IsKeys (a0 : TKeys) : Said Tryz.prog sigs_60 60 [.val (.pair (.slice 3 (.int .i64)) (.int .i64)) a0] [⟨.bool, N.spec_IsKeys a0⟩] := said_len (T := tab) (A := A_spec_IsKeys) tabOk ok_spec_IsKeys tabOk.follows Tryz.func60 (by kernel_rfl) (by kernel_rfl) (fun hl => let ⟨n, hn⟩ := spec_IsKeys_ok (ρ := Ret) (fun r0 => some [⟨.bool, r0⟩]) a0 hl.1; ⟨n, (a_spec_IsKeys n a0).trans (hn n (Nat.le_refl n) (fun  m v0_0 v0_1 => L_spec_IsKeys_0 n  m (S_spec_IsKeys_0 v0_0 v0_1)) (fun  m v0_0 v0_1 => b_spec_IsKeys_0 n  m v0_0 v0_1))⟩)
end Go.Proofs.YtmhhbnonbnkhbaaGreat.Ref
