/- Functions of the program: what each computes, and that it does so.
   Conditions: as each theorem states. -/
import Derived.Test.YtcmjbplnjjdcdaaGreatSB1
import Derived.WalkKit
import Derived.Lib.Bytealg
set_option linter.unusedVariables false
set_option linter.unusedSimpArgs false
set_option maxRecDepth 100000
namespace Go.Proofs.YtcmjbplnjjdcdaaGreat.Ref
open Go.RowKit Go.Proofs.YtcmjbplnjjdcdaaGreatW.PrintWords Go.Proofs.YtcmjbplnjjdcdaaGreatW.PrintLast
abbrev G.slices_BinarySearchFunc_impl_Entry__impl_PutEntry_s1 (l : List TEntry) (s : ByteArray) : Bool := decide (l.length ≤ 1048576)
abbrev N.slices_BinarySearchFunc_impl_Entry__impl_PutEntry_s1 (l : List TEntry) (s : ByteArray) : Int × Bool := ((bsAt l s : Int), bsHit l s)
def slices_BinarySearchFunc_impl_Entry__impl_PutEntry_s1_P_L0 {ρ : Type} (f0 : TEntry → ByteArray → Int) (k : Int → Bool → Option ρ) (L0 : (List TEntry) → ByteArray → Int → Int → Int → Option ρ) (v0_0 : (List TEntry)) (v0_1 : ByteArray) (v0_2 : Int) (v0_3 : Int) (v0_4 : Int) : Option ρ := (cond (decide (v0_3 < v0_4)) (cond (inRange (IntKind.wrap .i64 ((IntKind.wrap .u64 (IntKind.wrap .i64 (v0_3 + v0_4))) / (2 : Int) ^ 1)) (List.length v0_0)) (cond (decide ((f0 (List.getD v0_0 (Int.toNat (IntKind.wrap .i64 ((IntKind.wrap .u64 (IntKind.wrap .i64 (v0_3 + v0_4))) / (2 : Int) ^ 1))) (ByteArray.empty, ((0 : Int), ((0 : Int), [])))) v0_1) < (0 : Int))) (L0 v0_0 v0_1 v0_2 (IntKind.wrap .i64 ((IntKind.wrap .i64 ((IntKind.wrap .u64 (IntKind.wrap .i64 (v0_3 + v0_4))) / (2 : Int) ^ 1)) + (1 : Int))) v0_4) (L0 v0_0 v0_1 v0_2 v0_3 (IntKind.wrap .i64 ((IntKind.wrap .u64 (IntKind.wrap .i64 (v0_3 + v0_4))) / (2 : Int) ^ 1)))) none) (cond (decide (v0_3 < v0_2)) (cond (inRange v0_3 (List.length v0_0)) (k v0_3 ((f0 (List.getD v0_0 (Int.toNat v0_3) (ByteArray.empty, ((0 : Int), ((0 : Int), [])))) v0_1) == (0 : Int))) none) (k v0_3 false)))
def slices_BinarySearchFunc_impl_Entry__impl_PutEntry_s1_P {ρ : Type} (f0 : TEntry → ByteArray → Int) (k : Int → Bool → Option ρ) (L0 : (List TEntry) → ByteArray → Int → Int → Int → Option ρ) (a0 : (List TEntry)) (a1 : ByteArray) : Option ρ := (L0 a0 a1 (List.length a0 : Int) (0 : Int) (List.length a0 : Int))
def slices_BinarySearchFunc_impl_Entry__impl_PutEntry_s1_L0 {ρ : Type} (k : Int → Bool → Option ρ) (L0 : (List TEntry) → ByteArray → Int → Int → Int → Option ρ) (v0_0 : (List TEntry)) (v0_1 : ByteArray) (v0_2 : Int) (v0_3 : Int) (v0_4 : Int) : Option ρ := slices_BinarySearchFunc_impl_Entry__impl_PutEntry_s1_P_L0 N.impl_PutEntry_s1 k L0 v0_0 v0_1 v0_2 v0_3 v0_4
def slices_BinarySearchFunc_impl_Entry__impl_PutEntry_s1 {ρ : Type} (k : Int → Bool → Option ρ) (L0 : (List TEntry) → ByteArray → Int → Int → Int → Option ρ) (a0 : (List TEntry)) (a1 : ByteArray) : Option ρ := slices_BinarySearchFunc_impl_Entry__impl_PutEntry_s1_P N.impl_PutEntry_s1 k L0 a0 a1
theorem slices_BinarySearchFunc_impl_Entry__impl_PutEntry_s1_ok {ρ : Type} (k : Int → Bool → Option ρ) (a0 : (List TEntry)) (a1 : ByteArray) (l_a0 : lnL (fun y => (True ∧ (True ∧ (True ∧ lnL (fun _ => True) y.2.2.2)))) a0) (g : G.slices_BinarySearchFunc_impl_Entry__impl_PutEntry_s1 a0 a1 = true) : ∃ n0, ∀ n, n0 ≤ n → ∀ (L0 : Nat → (List TEntry) → ByteArray → Int → Int → Int → Option ρ) (h0 : ∀ ( m : Nat) (v0_0 : (List TEntry)) (v0_1 : ByteArray) (v0_2 : Int) (v0_3 : Int) (v0_4 : Int), L0 (m + 1) v0_0 v0_1 v0_2 v0_3 v0_4 = slices_BinarySearchFunc_impl_Entry__impl_PutEntry_s1_L0 k (L0 m) v0_0 v0_1 v0_2 v0_3 v0_4), slices_BinarySearchFunc_impl_Entry__impl_PutEntry_s1 k (L0 n) a0 a1 = k (N.slices_BinarySearchFunc_impl_Entry__impl_PutEntry_s1 a0 a1).1 (N.slices_BinarySearchFunc_impl_Entry__impl_PutEntry_s1 a0 a1).2 := by
  unfold G.slices_BinarySearchFunc_impl_Entry__impl_PutEntry_s1 at g
  have hl : a0.length ≤ 1048576 := of_decide_eq_true g
  refine ⟨a0.length + 1, fun n hn L0 h0 => ?_⟩
  have fin : ∀ (m i : Nat), i ≤ a0.length → slices_BinarySearchFunc_impl_Entry__impl_PutEntry_s1_L0 k (L0 m) a0 a1 (a0.length : Int) (i : Int) (i : Int) = k (i : Int) (decide (i < a0.length) && cmpStr (at' a0 i).1 a1 == 0) := by
    intro m i hi
    simp only [slices_BinarySearchFunc_impl_Entry__impl_PutEntry_s1_L0, slices_BinarySearchFunc_impl_Entry__impl_PutEntry_s1_P_L0, lt_nat, Nat.lt_irrefl, decide_false, cond_false, inRange_nat, Int.toNat_natCast, N.impl_PutEntry_s1]
    cases decide (i < a0.length) <;> rfl
  have go : ∀ (d n' i j : Nat), j - i ≤ d → d < n' → i ≤ j → j ≤ a0.length → L0 n' a0 a1 (a0.length : Int) (i : Int) (j : Int) = k ((bsGo a0 a1 d i j : Nat) : Int) (decide (bsGo a0 a1 d i j < a0.length) && cmpStr (at' a0 (bsGo a0 a1 d i j)).1 a1 == 0) := by
    intro d
    induction d with
    | zero =>
      intro n' i j hd hn' hij hj
      obtain ⟨m, rfl⟩ : ∃ m, n' = m + 1 := ⟨n' - 1, by omega⟩
      have : i = j := by omega
      subst this
      rw [h0]
      exact fin m i hj
    | succ d ih =>
      intro n' i j hd hn' hij hj
      obtain ⟨m, rfl⟩ : ∃ m, n' = m + 1 := ⟨n' - 1, by omega⟩
      rw [h0]
      by_cases c : i < j
      · have e1 : IntKind.wrap .i64 ((IntKind.wrap .u64 (IntKind.wrap .i64 ((i : Int) + (j : Int)))) / (2 : Int) ^ 1) = (((i + j) / 2 : Nat) : Int) := half_at (by omega)
        have e2 : (i + j) / 2 < a0.length := by omega
        simp only [slices_BinarySearchFunc_impl_Entry__impl_PutEntry_s1_L0, slices_BinarySearchFunc_impl_Entry__impl_PutEntry_s1_P_L0, lt_nat, decide_eq_true c, cond_true, e1, inRange_nat, decide_eq_true e2, Int.toNat_natCast, N.impl_PutEntry_s1, wrap_succ (j := (i + j) / 2) (by unfold big; omega)]
        unfold bsGo
        rw [decide_eq_true c, cond_true]
        show cond (decide (cmpStr (at' a0 ((i + j) / 2)).1 a1 < 0)) _ _ = _
        cases decide (cmpStr (at' a0 ((i + j) / 2)).1 a1 < 0) with
        | true => exact ih m ((i + j) / 2 + 1) j (by omega) (by omega) (by omega) hj
        | false => exact ih m i ((i + j) / 2) (by omega) (by omega) (by omega) (by omega)
      · have : i = j := by omega
        subst this
        unfold bsGo
        rw [decide_eq_false c, cond_false]
        exact fin m i hj
  exact go a0.length n 0 a0.length (by omega) hn (by omega) (Nat.le_refl _)
def OP_slices_BinarySearchFunc_impl_Entry__impl_PutEntry_s1 (f0 : TEntry → ByteArray → Int) : Orac := (orcX 24 [.val TyEntry, .val .str] (fun d => true) (fun d => [⟨(.int .i64), f0 d.1 d.2.1⟩]) nilO)
def O_slices_BinarySearchFunc_impl_Entry__impl_PutEntry_s1 : Orac := OP_slices_BinarySearchFunc_impl_Entry__impl_PutEntry_s1 N.impl_PutEntry_s1
theorem ok_slices_BinarySearchFunc_impl_Entry__impl_PutEntry_s1 : OracOk Tryz.prog sigs O_slices_BinarySearchFunc_impl_Entry__impl_PutEntry_s1 := (orcX_ok rfl rfl (fun d g => said_impl_PutEntry_s1 d.1 d.2.1) nilO_ok)
def A_slices_BinarySearchFunc_impl_Entry__impl_PutEntry_s1 : Ann := fun b => cond (Nat.beq b 0) ⟨[(0, false), (1, false), (2, false), (8, false), (9, false), (10, false)], []⟩ (⟨[], []⟩)
def S_slices_BinarySearchFunc_impl_Entry__impl_PutEntry_s1_0 (v0_0 : (List TEntry)) (v0_1 : ByteArray) (v0_2 : Int) (v0_3 : Int) (v0_4 : Int) : St := [(kT 0, some (.tv (.v (.slice 27 TyEntry) v0_0 .no))), (kT 1, some (.tv (.v .str v0_1 .no))), (kT 2, some (.tv (.clo 24 []))), (kT 8, some (.tv (.v (.int .i64) v0_2 .no))), (kT 9, some (.tv (.v (.int .i64) v0_3 .no))), (kT 10, some (.tv (.v (.int .i64) v0_4 .no)))]
noncomputable def L_P_slices_BinarySearchFunc_impl_Entry__impl_PutEntry_s1_0 (f0 : TEntry → ByteArray → Int) (n m : Nat) : St → Option Ret := loopOf tab sigs (OP_slices_BinarySearchFunc_impl_Entry__impl_PutEntry_s1 f0) A_slices_BinarySearchFunc_impl_Entry__impl_PutEntry_s1 Tryz.f23 [((.int .i64), .no), (.bool, .no)] n (fun _ => 0) 0 m
theorem bP_slices_BinarySearchFunc_impl_Entry__impl_PutEntry_s1_0 (f0 : TEntry → ByteArray → Int) (n m : Nat) (v0_0 : (List TEntry)) (v0_1 : ByteArray) (v0_2 : Int) (v0_3 : Int) (v0_4 : Int) : L_P_slices_BinarySearchFunc_impl_Entry__impl_PutEntry_s1_0 f0 n (m + 1) (S_slices_BinarySearchFunc_impl_Entry__impl_PutEntry_s1_0 v0_0 v0_1 v0_2 v0_3 v0_4) = slices_BinarySearchFunc_impl_Entry__impl_PutEntry_s1_P_L0 f0 (fun r0 r1 => some [⟨(.int .i64), r0⟩, ⟨.bool, r1⟩]) (fun v0_0 v0_1 v0_2 v0_3 v0_4 => L_P_slices_BinarySearchFunc_impl_Entry__impl_PutEntry_s1_0 f0 n m (S_slices_BinarySearchFunc_impl_Entry__impl_PutEntry_s1_0 v0_0 v0_1 v0_2 v0_3 v0_4)) v0_0 v0_1 v0_2 v0_3 v0_4 := by kernel_rfl
theorem aP_slices_BinarySearchFunc_impl_Entry__impl_PutEntry_s1 (f0 : TEntry → ByteArray → Int) (n : Nat) (a0 : (List TEntry)) (a1 : ByteArray) : absF tab sigs (OP_slices_BinarySearchFunc_impl_Entry__impl_PutEntry_s1 f0) A_slices_BinarySearchFunc_impl_Entry__impl_PutEntry_s1 Tryz.f23 [((.int .i64), .no), (.bool, .no)] n [.val (.slice 27 TyEntry) a0, .val .str a1, .clo 24 []] = slices_BinarySearchFunc_impl_Entry__impl_PutEntry_s1_P f0 (fun r0 r1 => some [⟨(.int .i64), r0⟩, ⟨.bool, r1⟩]) (fun v0_0 v0_1 v0_2 v0_3 v0_4 => L_P_slices_BinarySearchFunc_impl_Entry__impl_PutEntry_s1_0 f0 n n (S_slices_BinarySearchFunc_impl_Entry__impl_PutEntry_s1_0 v0_0 v0_1 v0_2 v0_3 v0_4)) a0 a1 := by kernel_rfl
theorem said_slices_BinarySearchFunc_impl_Entry__impl_PutEntry_s1 (a0 : (List TEntry)) (a1 : ByteArray) (g : G.slices_BinarySearchFunc_impl_Entry__impl_PutEntry_s1 a0 a1 = true) : Said Tryz.prog sigs_23 23 [.val (.slice 27 TyEntry) a0, .val .str a1, .clo 24 []] [⟨(.int .i64), (N.slices_BinarySearchFunc_impl_Entry__impl_PutEntry_s1 a0 a1).1⟩, ⟨.bool, (N.slices_BinarySearchFunc_impl_Entry__impl_PutEntry_s1 a0 a1).2⟩] := said_len (T := tab) (A := A_slices_BinarySearchFunc_impl_Entry__impl_PutEntry_s1) tabOk ok_slices_BinarySearchFunc_impl_Entry__impl_PutEntry_s1 tabOk.follows Tryz.func23 (by kernel_rfl) (by kernel_rfl) (fun hl => let ⟨n, hn⟩ := slices_BinarySearchFunc_impl_Entry__impl_PutEntry_s1_ok (ρ := Ret) (fun r0 r1 => some [⟨(.int .i64), r0⟩, ⟨.bool, r1⟩]) a0 a1 hl.1 g; ⟨n, (aP_slices_BinarySearchFunc_impl_Entry__impl_PutEntry_s1 N.impl_PutEntry_s1 n a0 a1).trans (hn n (Nat.le_refl n) (fun  m v0_0 v0_1 v0_2 v0_3 v0_4 => L_P_slices_BinarySearchFunc_impl_Entry__impl_PutEntry_s1_0 N.impl_PutEntry_s1 n  m (S_slices_BinarySearchFunc_impl_Entry__impl_PutEntry_s1_0 v0_0 v0_1 v0_2 v0_3 v0_4)) (fun  m v0_0 v0_1 v0_2 v0_3 v0_4 => bP_slices_BinarySearchFunc_impl_Entry__impl_PutEntry_s1_0 N.impl_PutEntry_s1 n  m v0_0 v0_1 v0_2 v0_3 v0_4))⟩)
def G.slices_Insert_impl_Entry (l : List TEntry) (i : Int) (v : List TEntry) : Bool := decide (0 ≤ i) && (decide (i ≤ (l.length : Int)) && (decide (l.length ≤ 549755813888) && decide (v.length = 1)))
abbrev N.slices_Insert_impl_Entry (l : List TEntry) (i : Int) (v : List TEntry) : List TEntry := l.insertIdx i.toNat (v.getD 0 dE)
-- HAND
section
open Go.Shelf Go.Lib Go.Proofs
section
variable {b n c i vb m vc : Nat} {cs vs : List Value} {w : World}
set_option maxHeartbeats 4000000
set_option maxRecDepth 100000
theorem ins_shift (hi : i < n) (hm : 0 < m) (hroom : n + m ≤ c) (hc63 : c ≤ 9223372036854775807) (hvb : vb ≠ b)
    (hcl : cs.length = n * 4) (hvl : vs.length = m * 4)
    (hcs : ∀ j v, cs[j]? = some v → w.cell? ⟨b, j, none⟩ = some v) (hsp : ∀ j, j < (n + m) * 4 → (w.cell? ⟨b, j, none⟩).isSome = true) (hfz : ∀ j, j < (n + m) * 4 → w.frozen? ⟨b, j, none⟩ = false)
    (hvs : ∀ j v, vs[j]? = some v → w.cell? ⟨vb, j, none⟩ = some v) (h1c : ∀ v ∈ cs, v.oneCell' = true) (h1v : ∀ v ∈ vs, v.oneCell' = true)
    (tA tB : TypeId) (kA kB : Nat) (hsa : w.shape? vb = some (tA, kA)) (hsb : w.shape? b = some (tB, kB)) (hkB : kB ≠ 0) (hfa : w.frozen? ⟨vb, 0, none⟩ = false) (hfe : w.frozen? ⟨vb, kA, none⟩ = false) :
    Calls Tryz.prog 27 #[.slice (some ⟨b, 0, none⟩) n c, .int .i64 i, .slice (some ⟨vb, 0, none⟩) m vc] w fun e w' =>
      e = .returned (.slice (some ⟨b, 0, none⟩) (n + m) c) ∧ w' = (w.drew.setCells b ((i + m) * 4) (cs.drop (i * 4))).setCells b (i * 4) vs := by
  have mixed : Tryz.prog.follows .mixedOrders = true := by kernel_rfl
  have u28 := run_underlying (P := Tryz.prog) Tryz.underlying24
  have hz1 : ¬ ((m : Int) = 0) := by omega
  have hz2 : ¬ ((i : Int) = (n : Int)) := by omega
  have hsz : (Tryz.prog.info? 27).map (·.size) = some 4 := by kernel_rfl
  have hov : ∀ lb cb, (callFunc 54 #[.slice (some ⟨vb, 0, none⟩) m vc, .slice (some ⟨b, (i + m) * 4, none⟩) lb cb]).run Tryz.prog w = .ok (.value (.bool false)) w := fun lb cb => by
    rw [run_callFunc_extern Tryz.func54 (by kernel_rfl) (by kernel_rfl) (by kernel_rfl) (e := Extern.SlicesOverlaps.overlaps #[24, 24] #[4]) (by kernel_rfl),
      Lib.run_overlaps_apart w 24 4 27 Tryz.underlying24 4 Tryz.sizeOf27 ⟨vb, 0, none⟩ ⟨b, (i + m) * 4, none⟩ m vc lb cb hvb tA tB kA kB hsa hsb hkB hfa hfe]
    rfl
  have hdl : (cs.drop (i * 4)).length = (n - i) * 4 := by rw [List.length_drop, hcl]; omega
  have hmin1 : Nat.min (n + m - i) (n + m - (i + m)) = n - i := by simp only [Nat.min_def]; split <;> omega
  have hmin2 : Nat.min m (n + m - i) = m := by simp only [Nat.min_def]; split <;> omega
  have hw1 : IntKind.i64.wrap ((i : Int) + (m : Int)) = (i : Int) + (m : Int) := by rw [IntKind.wrap_i64]; omega
  have hb1 : (0 : Int) ≤ (i : Int) + (m : Int) := by omega
  have hin : i ≤ n := by omega
  have htn : ((i : Int) + (m : Int)).toNat = i + m := by omega
  have hb2 : ¬ (c = i + m) := by omega
  have hb3 : (i : Int) ≤ (n : Int) + (m : Int) := by omega
  have hb4 : ¬ (c = i) := by omega
  have hcp1 : ∀ ty dc sc, (Builtin.copy_ #[24, 24] ty #[.slice (some ⟨b, (i + m) * 4, none⟩) (n + m - (i + m)) dc, .slice (some ⟨b, i * 4, none⟩) (n + m - i) sc]).run Tryz.prog w.drew = .ok (goInt ((n - i : Nat) : Int)) (w.drew.setCells b ((i + m) * 4) (cs.drop (i * 4))) := fun ty dc sc => by
    have h := run_copy_wide (P := Tryz.prog) w.drew 24 24 ty 27 4 b ((i + m) * 4) (n + m - (i + m)) dc ⟨b, i * 4, none⟩ (n + m - i) sc (cs.drop (i * 4)) Tryz.underlying24 hsz (by rw [hdl, hmin1])
      (fun j v hj => by rw [Addr.add_lit]; exact hcs (i * 4 + j) v (by rwa [List.getElem?_drop] at hj))
      (fun j hj => by exact hsp _ (by omega)) (fun j hj => by exact hfz _ (by omega)) (fun v hv => h1c v (List.mem_of_mem_drop hv))
    rw [hmin1] at h
    exact h
  obtain ⟨W1, hW1⟩ : ∃ W1, W1 = w.drew.setCells b ((i + m) * 4) (cs.drop (i * 4)) := ⟨_, rfl⟩
  have hsp1 : ∀ k, k < (n + m) * 4 → (W1.cell? ⟨b, k, none⟩).isSome = true := fun k hk => by
    rw [hW1]
    exact isSome_setCells b _ _ _ (fun j hj => by exact hsp _ (by omega)) _ (hsp k hk)
  have hcp2 : ∀ (W : World), (∀ x, W.cell? x = W1.cell? x) → (∀ x, W.frozen? x = W1.frozen? x) → ∀ ty dc, (Builtin.copy_ #[24, 24] ty #[.slice (some ⟨b, i * 4, none⟩) (n + m - i) dc, .slice (some ⟨vb, 0, none⟩) m vc]).run Tryz.prog W = .ok (goInt m) (W.setCells b (i * 4) vs) := fun W hWc hWf ty dc => by
    have h := run_copy_wide (P := Tryz.prog) W 24 24 ty 27 4 b (i * 4) (n + m - i) dc ⟨vb, 0, none⟩ m vc vs Tryz.underlying24 hsz (by rw [hvl, hmin2])
      (fun j v hj => by
        rw [Addr.add_lit, hWc, hW1, World.cell?_setCells_out b _ _ _ _ (fun h _ => absurd h hvb), Nat.zero_add]
        exact hvs j v hj)
      (fun j hj => by rw [hWc]; exact hsp1 _ (by omega)) (fun j hj => by rw [hWf, hW1, World.frozen?_setCells]; exact hfz _ (by omega)) h1v
    rw [hmin2] at h
    exact h
  rw [← hW1] at hcp1
  clear hcs hsp hfz hvs h1c h1v hsp1 hdl hmin1 hmin2
  go_enter Tryz.func27, Tryz.ntmps27
  go_wp2_with (simp only [hov])
  go_region_law_o (refine step_copy_runI rfl _ _ 24 24 rfl _ _ (by simp [Act.eval, Act.put]) (by simp [Act.eval, Act.put]) (hcp1 _ _ _) ?_)
  go_wp2_with (at_builtin; refine wpList_copy_runI _ rfl _ _ 24 24 rfl _ _ rfl rfl (hcp2 _ (fun _ => rfl) (fun _ => rfl) _ _) ?_)
  go_ret
  first | exact ⟨rfl, rfl⟩ | exact ⟨rfl, by rw [hW1]⟩
theorem ins_room (hm : 0 < m) (hroom : n + m ≤ c) (hc63 : c ≤ 9223372036854775807)
    (hvl : vs.length = m * 4) (hsp : ∀ j, j < m * 4 → (w.cell? ⟨b, n * 4 + j, none⟩).isSome = true) (hfz : ∀ j, j < m * 4 → w.frozen? ⟨b, n * 4 + j, none⟩ = false)
    (hvs : ∀ j v, vs[j]? = some v → w.cell? ⟨vb, j, none⟩ = some v) (h1v : ∀ v ∈ vs, v.oneCell' = true) :
    Calls Tryz.prog 27 #[.slice (some ⟨b, 0, none⟩) n c, .int .i64 n, .slice (some ⟨vb, 0, none⟩) m vc] w fun e w' =>
      e = .returned (.slice (some ⟨b, 0, none⟩) (n + m) c) ∧ w' = w.setCells b (n * 4) vs := by
  have mixed : Tryz.prog.follows .mixedOrders = true := by kernel_rfl
  have u28 := run_underlying (P := Tryz.prog) Tryz.underlying24
  obtain ⟨i0, hi0, hzs⟩ := Option.map_eq_some_iff.1 (show (Tryz.prog.info? 27).map (·.size) = some 4 by kernel_rfl)
  have hz1 : ¬ ((m : Int) = 0) := by omega
  have hsrc : Src Tryz.prog i0.size 24 (.slice (some ⟨vb, 0, none⟩) m vc) m vs w := by
    rw [hzs]
    exact Src.ofSlice w Tryz.underlying24 ⟨vb, 0, none⟩ m vc vs hvl (fun j u hj => by rw [Addr.add_lit, Nat.zero_add]; exact hvs j u hj) h1v
  have hrun : ∀ ty, (Builtin.append_ #[24, 24] ty #[.slice (some ⟨b, 0, none⟩) n c, .slice (some ⟨vb, 0, none⟩) m vc]).run Tryz.prog w = .ok (.slice (some ⟨b, 0, none⟩) (n + m) c) (w.setCells b (n * 4) vs) := fun ty => by
    have h := run_append_room_src (P := Tryz.prog) w 24 24 ty 27 i0 Tryz.underlying24 hi0 b 0 n c _ m vs hsrc hroom (fun j hj => by rw [hzs, Nat.zero_add]; exact hsp j (by omega)) (fun j hj => by rw [hzs, Nat.zero_add]; exact hfz j (by omega))
    rw [hzs, Nat.zero_add] at h
    exact h
  clear hsp hfz hvs h1v hsrc
  go_enter Tryz.func27, Tryz.ntmps27
  go_wp2_with (at_builtin; refine Lib.wpList_append_run _ rfl _ _ _ _ rfl _ _ rfl rfl _ _ (hrun _) ?_)
  go_ret
  exact ⟨rfl, rfl⟩
theorem ins_end (base : Option Addr) (hm : 0 < m) (hnc : n ≤ c) (hroom : c < n + m) (hbig : (n + m) * 64 ≤ 140737488355328)
    (hcl : cs.length = n * 4) (hvl : vs.length = m * 4) (hnil : base = none → n = 0)
    (hcs : ∀ a, base = some a → ∀ j v, cs[j]? = some v → w.cell? (a.add j) = some v)
    (hvs : ∀ j v, vs[j]? = some v → w.cell? ⟨vb, j, none⟩ = some v) (h1v : ∀ v ∈ vs, v.oneCell' = true) :
    Calls Tryz.prog 27 #[.slice base n c, .int .i64 n, .slice (some ⟨vb, 0, none⟩) m vc] w fun e w' => ∃ (G : Nat) (ROW : Array Value),
      e = .returned (.slice (some ⟨w.heap.size, 0, none⟩) (n + m) G) ∧ w' = w.drew.alloc (.cells ROW 27) ∧ n + m ≤ G ∧ G ≤ maxLen ∧ ROW.size = G * 4 ∧ ROW.toList.take ((n + m) * 4) = cs ++ vs := by
  have mixed : Tryz.prog.follows .mixedOrders = true := by kernel_rfl
  have u28 := run_underlying (P := Tryz.prog) Tryz.underlying24
  obtain ⟨i0, hi0, hzz⟩ := Option.map_eq_some_iff.1 (show (Tryz.prog.info? 27).map (fun i => (i.zero.map (fun z => z.cells.size), i.size, Nat.ble i.bytes 64)) = some (some 4, 4, true) by kernel_rfl)
  simp only [Prod.mk.injEq] at hzz
  obtain ⟨hz0, hzs, hzb⟩ := hzz
  obtain ⟨z, hz, hzc⟩ := Option.map_eq_some_iff.1 hz0
  have hzb := Nat.le_of_ble_eq_true hzb
  have hz1 : ¬ ((m : Int) = 0) := by omega
  have hbig2 : (n + m) * i0.bytes ≤ 140737488355328 := Nat.le_trans (Nat.mul_le_mul_left _ hzb) hbig
  have hsrc : Src Tryz.prog i0.size 24 (.slice (some ⟨vb, 0, none⟩) m vc) m vs w := by
    rw [hzs]
    exact Src.ofSlice w Tryz.underlying24 ⟨vb, 0, none⟩ m vc vs hvl (fun j u hj => by rw [Addr.add_lit, Nat.zero_add]; exact hvs j u hj) h1v
  have hold : (Builtin.firstCells i0.size n (.slice base n c)).run Tryz.prog w.drew = .ok cs.toArray w.drew := by
    rw [hzs]
    cases base with
    | none =>
      have h0 := hnil rfl
      subst h0
      rw [Nat.zero_mul] at hcl
      rw [List.length_eq_zero_iff.1 hcl]
      exact run_firstCells_none w.drew 4 0 0 c
    | some a => exact run_firstCells_some w.drew 4 n a n c cs hcl (fun j v hj => hcs a rfl j v hj)
  have hrun : ∀ ty, (Builtin.append_ #[24, 24] ty #[.slice base n c, .slice (some ⟨vb, 0, none⟩) m vc]).run Tryz.prog w = _ := fun ty =>
    run_append_grow_src w 24 24 ty 27 i0 _ Tryz.underlying24 hi0 hz base n c cs hold _ m vs hsrc hroom (by omega) (growslice_fits hroom hbig2)
  have hGn : n + m ≤ grownCap w (n + m) c 27 := grownCap_ge w _ _ _
  have hG63 : grownCap w (n + m) c 27 ≤ maxLen := grownCap_le_maxLen w (n + m) c 27 (by unfold maxLen; omega)
  obtain ⟨G, hG⟩ : ∃ G, G = grownCap w (n + m) c 27 := ⟨_, rfl⟩
  obtain ⟨ROW, hROW⟩ : ∃ ROW : Array Value, ROW = (cs ++ vs).toArray ++ Builtin.zeroCells z.cells (G - (n + m)) := ⟨_, rfl⟩
  rw [← hG] at hrun hGn hG63
  rw [← hROW] at hrun
  have hR1 : ROW.size = G * 4 := by
    rw [hROW]
    simp [Builtin.zeroCells, hzc, hcl, hvl]
    omega
  have hR2 : ROW.toList.take ((n + m) * 4) = cs ++ vs := by
    rw [hROW, Array.toList_append, List.take_append_of_le_length (by simp [hcl, hvl]; omega), List.take_of_length_le (by simp [hcl, hvl]; omega)]
  have key : Calls Tryz.prog 27 #[.slice base n c, .int .i64 n, .slice (some ⟨vb, 0, none⟩) m vc] w fun e w' => e = .returned (.slice (some ⟨w.heap.size, 0, none⟩) (n + m) G) ∧ w' = w.drew.alloc (.cells ROW 27) := by
    clear hcs hvs h1v hsrc hold hR1 hR2 hROW hz hzc hz0
    go_enter Tryz.func27, Tryz.ntmps27
    cases base with
    | none =>
      have h0 := hnil rfl
      subst h0
      go_wp2_with (at_builtin; refine Lib.wpList_append_run _ rfl _ _ _ _ rfl _ _ rfl rfl _ _ (hrun _) ?_)
      go_ret
      exact ⟨rfl, rfl⟩
    | some a =>
      obtain ⟨ab, ao, asp⟩ := a
      go_wp2_with (at_builtin; refine Lib.wpList_append_run _ rfl _ _ _ _ rfl _ _ rfl rfl _ _ (hrun _) ?_)
      all_goals (go_ret; exact ⟨rfl, rfl⟩)
  exact key.mono fun e w' h => ⟨G, ROW, h.1, h.2, hGn, hG63, hR1, hR2⟩
end
section
variable {b n c i vb m vc : Nat} {cs vs : List Value} {w : World}
set_option maxHeartbeats 4000000
set_option maxRecDepth 100000
theorem ins_grow (hi : i < n) (hm : 0 < m) (hnc : n ≤ c) (hroom : c < n + m) (hbig : (n + m) * 64 ≤ 140737488355328)
    (hcl : cs.length = n * 4) (hvl : vs.length = m * 4)
    (hcs : ∀ j v, cs[j]? = some v → w.cell? ⟨b, j, none⟩ = some v)
    (hvs : ∀ j v, vs[j]? = some v → w.cell? ⟨vb, j, none⟩ = some v) (h1c : ∀ v ∈ cs, v.oneCell' = true) (h1v : ∀ v ∈ vs, v.oneCell' = true) :
    Calls Tryz.prog 27 #[.slice (some ⟨b, 0, none⟩) n c, .int .i64 i, .slice (some ⟨vb, 0, none⟩) m vc] w fun e w' => ∃ (G : Nat) (ROW : Array Value),
      e = .returned (.slice (some ⟨w.heap.size, 0, none⟩) (n + m) G) ∧ n + m ≤ G ∧ G ≤ maxLen ∧ ROW.size = G * 4 ∧ ROW.toList.take (i * 4) = cs.take (i * 4) ∧
      w' = (((w.alloc (.cells ROW 27)).drew.setCells w.heap.size (i * 4) vs).drew).setCells w.heap.size ((i + m) * 4) (cs.drop (i * 4)) := by
  have mixed : Tryz.prog.follows .mixedOrders = true := by kernel_rfl
  have u28 := run_underlying (P := Tryz.prog) Tryz.underlying24
  obtain ⟨i0, hi0, hzz⟩ := Option.map_eq_some_iff.1 (show (Tryz.prog.info? 27).map (fun i => (i.zero.map (fun z => z.cells.size), i.size, Nat.ble i.bytes 64)) = some (some 4, 4, true) by kernel_rfl)
  simp only [Prod.mk.injEq] at hzz
  obtain ⟨hz0, hzs, hzb⟩ := hzz
  obtain ⟨z, hz, hzc⟩ := Option.map_eq_some_iff.1 hz0
  have hzb := Nat.le_of_ble_eq_true hzb
  have hbig2 : (n + m) * i0.bytes ≤ 140737488355328 := Nat.le_trans (Nat.mul_le_mul_left _ hzb) hbig
  have hz1 : ¬ ((m : Int) = 0) := by omega
  have hz2 : ¬ ((i : Int) = (n : Int)) := by omega
  have hz3 : (c : Int) < (n : Int) + (m : Int) := by omega
  have hsz : (Tryz.prog.info? 27).map (·.size) = some 4 := by kernel_rfl
  have hbw : b < w.heap.size := block_lt_of_cell (hcs 0 _ (List.getElem?_eq_getElem (by omega)))
  have hvw : vb < w.heap.size := block_lt_of_cell (hvs 0 _ (List.getElem?_eq_getElem (by omega)))
  have hkk : (n : Int) + (m : Int) - (i : Int) = ((n + m - i : Nat) : Int) := by omega
  have hik : i + (n + m - i) = n + m := by omega
  have hmin1 : Nat.min (n - i) (n + m - (i + m)) = n - i := by simp only [Nat.min_def]; split <;> omega
  have hmin2 : Nat.min m (n + m - i) = m := by simp only [Nat.min_def]; split <;> omega
  have hold : (Builtin.firstCells i0.size i (.slice (some ⟨b, 0, none⟩) i c)).run Tryz.prog w.drew = .ok (cs.take (i * 4)).toArray w.drew := by
    rw [hzs]
    exact run_firstCells_some w.drew 4 i ⟨b, 0, none⟩ i c (cs.take (i * 4)) (by rw [List.length_take]; omega) (fun j v hj => by
      rw [Addr.add_lit, Nat.zero_add]
      rw [List.getElem?_take] at hj
      split at hj
      · exact hcs j v hj
      · cases hj)
  have hk64 : (n + m - i) * i0.bytes ≤ 281474976710656 := by
    have := Nat.mul_le_mul_right i0.bytes (show n + m - i ≤ n + m by omega)
    omega
  have hrz : ∀ ty, (Builtin.append_ #[24, 3] ty #[.slice (some ⟨b, 0, none⟩) i c, .int .i64 ((n : Int) + (m : Int) - (i : Int))]).run Tryz.prog w =
      .ok (.slice (some ⟨w.heap.size, 0, none⟩) (n + m) (grownCap w (n + m) c 27)) (w.drew.alloc (.cells ((cs.take (i * 4)).toArray ++ Builtin.zeroCells z.cells (n + m - i) ++ Builtin.zeroCells z.cells (grownCap w (n + m) c 27 - (n + m))) 27)) := fun ty => by
    have h := Lib.run_append_grow_zeros w 24 3 ty 27 i0 _ .i64 .i64 Tryz.underlying24 Tryz.underlying3 hi0 hz (some ⟨b, 0, none⟩) i c (cs.take (i * 4)) hold (n + m - i) (by omega) (by omega) (by omega) (by omega) hk64 (by rw [hik]; exact growslice_fits hroom hbig2)
    rw [hik] at h
    rw [hkk]
    exact h
  have hGn : n + m ≤ grownCap w (n + m) c 27 := grownCap_ge w _ _ _
  have hG63 : grownCap w (n + m) c 27 ≤ maxLen := grownCap_le_maxLen w (n + m) c 27 (by unfold maxLen; omega)
  obtain ⟨G, hG⟩ : ∃ G, G = grownCap w (n + m) c 27 := ⟨_, rfl⟩
  obtain ⟨ROW, hROW⟩ : ∃ ROW : Array Value, ROW = (cs.take (i * 4)).toArray ++ Builtin.zeroCells z.cells (n + m - i) ++ Builtin.zeroCells z.cells (G - (n + m)) := ⟨_, rfl⟩
  rw [← hG] at hrz hGn hG63
  rw [← hROW] at hrz
  have hR1 : ROW.size = G * 4 := by
    rw [hROW]
    simp [Builtin.zeroCells, hzc, hcl]
    omega
  have hR2 : ROW.toList.take (i * 4) = cs.take (i * 4) := by
    have hl : (cs.take (i * 4)).length = i * 4 := by rw [List.length_take]; omega
    rw [hROW, Array.toList_append, Array.toList_append, List.append_assoc, show ((cs.take (i * 4)).toArray).toList = cs.take (i * 4) from rfl, List.take_append_of_le_length (by omega), List.take_of_length_le (by omega)]
  obtain ⟨W1, hW1⟩ : ∃ W1, W1 = w.drew.alloc (.cells ROW 27) := ⟨_, rfl⟩
  rw [← hW1] at hrz
  have hN : ∀ j, j < (n + m) * 4 → (W1.cell? ⟨w.heap.size, j, none⟩).isSome = true := fun j hj => by
    rw [hW1, World.cell?_alloc_at (w := w.drew) ROW _ w.heap.size j rfl, Array.getElem?_eq_getElem (by omega)]; rfl
  have hNf : ∀ j, W1.frozen? ⟨w.heap.size, j, none⟩ = false := fun j => by rw [hW1]; exact World.frozen?_alloc_at (w := w.drew) ROW _ w.heap.size j rfl
  have hOb : ∀ j v, w.cell? ⟨b, j, none⟩ = some v → W1.cell? ⟨b, j, none⟩ = some v := fun j v h => by rw [hW1, World.cell?_alloc_past (w := w.drew) _ b j hbw]; exact h
  have hOv : ∀ j v, w.cell? ⟨vb, j, none⟩ = some v → W1.cell? ⟨vb, j, none⟩ = some v := fun j v h => by rw [hW1, World.cell?_alloc_past (w := w.drew) _ vb j hvw]; exact h
  have hcpA : ∀ (W : World), (∀ x, W.cell? x = W1.cell? x) → (∀ x, W.frozen? x = W1.frozen? x) → ∀ ty dc, (Builtin.copy_ #[24, 24] ty #[.slice (some ⟨w.heap.size, i * 4, none⟩) (n + m - i) dc, .slice (some ⟨vb, 0, none⟩) m vc]).run Tryz.prog W = .ok (goInt ((m : Nat) : Int)) (W.setCells w.heap.size (i * 4) vs) := fun W hWc hWf ty dc => by
    have h := run_copy_wide (P := Tryz.prog) W 24 24 ty 27 4 w.heap.size (i * 4) (n + m - i) dc ⟨vb, 0, none⟩ m vc vs Tryz.underlying24 hsz (by rw [hvl, hmin2])
      (fun j v hj => by rw [Addr.add_lit, hWc, Nat.zero_add]; exact hOv _ v (hvs j v hj))
      (fun j hj => by rw [hWc]; exact hN _ (by omega)) (fun j hj => by rw [hWf]; exact hNf _) h1v
    rw [hmin2] at h
    exact h
  have hGi : ¬ (G = i) := by omega
  have hGim : ¬ (G = i + m) := by omega
  have hci : ¬ (c = i) := by omega
  have hbN : b ≠ w.heap.size := by omega
  have hG64 : G ≤ 9223372036854775807 := by unfold maxLen at hG63; omega
  have hdl : (cs.drop (i * 4)).length = (n - i) * 4 := by rw [List.length_drop, hcl]; omega
  have hcpB : ∀ (W : World), (∀ x, W.cell? x = (W1.setCells w.heap.size (i * 4) vs).cell? x) → (∀ x, W.frozen? x = (W1.setCells w.heap.size (i * 4) vs).frozen? x) → ∀ ty dc sc, (Builtin.copy_ #[24, 24] ty #[.slice (some ⟨w.heap.size, (i + m) * 4, none⟩) (n + m - (i + m)) dc, .slice (some ⟨b, i * 4, none⟩) (n - i) sc]).run Tryz.prog W = .ok (goInt ((n - i : Nat) : Int)) (W.setCells w.heap.size ((i + m) * 4) (cs.drop (i * 4))) := fun W hWc hWf ty dc sc => by
    have h := run_copy_wide (P := Tryz.prog) W 24 24 ty 27 4 w.heap.size ((i + m) * 4) (n + m - (i + m)) dc ⟨b, i * 4, none⟩ (n - i) sc (cs.drop (i * 4)) Tryz.underlying24 hsz (by rw [hdl, hmin1])
      (fun j v hj => by
        rw [Addr.add_lit, hWc, World.cell?_setCells_out _ _ _ _ _ (fun h _ => absurd h hbN)]
        exact hOb _ v (hcs (i * 4 + j) v (by rwa [List.getElem?_drop] at hj)))
      (fun j hj => by rw [hWc]; exact isSome_setCells _ _ _ _ (fun t ht => hN _ (by omega)) _ (hN _ (by omega)))
      (fun j hj => by rw [hWf, World.frozen?_setCells]; exact hNf _) (fun v hv => h1c v (List.mem_of_mem_drop hv))
    rw [hmin1] at h
    exact h
  subst hW1
  have hE1 : ∀ x, ((w.alloc (.cells ROW 27)).drew).cell? x = (w.drew.alloc (.cells ROW 27)).cell? x := fun x => rfl
  have hE2 : ∀ x, ((w.alloc (.cells ROW 27)).drew).frozen? x = (w.drew.alloc (.cells ROW 27)).frozen? x := fun x => rfl
  have hF1 : ∀ x, (((w.alloc (.cells ROW 27)).drew.setCells w.heap.size (i * 4) vs).drew).cell? x = ((w.drew.alloc (.cells ROW 27)).setCells w.heap.size (i * 4) vs).cell? x := fun x => rfl
  have hF2 : ∀ x, (((w.alloc (.cells ROW 27)).drew.setCells w.heap.size (i * 4) vs).drew).frozen? x = ((w.drew.alloc (.cells ROW 27)).setCells w.heap.size (i * 4) vs).frozen? x := fun x => rfl
  have hw1 : IntKind.i64.wrap ((i : Int) + (m : Int)) = (i : Int) + (m : Int) := by rw [IntKind.wrap_i64]; omega
  have hb1 : (0 : Int) ≤ (i : Int) + (m : Int) := by omega
  have hin : i ≤ n := by omega
  have htn : ((i : Int) + (m : Int)).toNat = i + m := by omega
  have hb3 : (i : Int) ≤ (n : Int) := by omega
  have key : Calls Tryz.prog 27 #[.slice (some ⟨b, 0, none⟩) n c, .int .i64 i, .slice (some ⟨vb, 0, none⟩) m vc] w fun e w' => e = .returned (.slice (some ⟨w.heap.size, 0, none⟩) (n + m) G) ∧
      w' = (((w.alloc (.cells ROW 27)).drew.setCells w.heap.size (i * 4) vs).drew).setCells w.heap.size ((i + m) * 4) (cs.drop (i * 4)) := by
    clear hkk hik hold hROW hR1 hR2 hG hcs hvs h1c h1v hN hNf hOb hOv hdl hz hzc hz0 hk64 hmin1 hmin2
    go_enter Tryz.func27, Tryz.ntmps27
    go_wp2_with (first
      | (at_builtin; refine Lib.wpList_append_run _ rfl _ _ _ _ rfl _ _ rfl rfl _ _ (hrz _) ?_)
      | (at_builtin; refine wpList_copy_runI _ rfl _ _ 24 24 rfl _ _ rfl rfl (hcpA _ hE1 hE2 _ _) ?_)
      | (at_builtin; refine wpList_copy_runI _ rfl _ _ 24 24 rfl _ _ rfl rfl (hcpB _ (fun _ => rfl) (fun _ => rfl) _ _ _) ?_))
    go_region_law_o (refine step_copy_runI rfl _ _ 24 24 rfl (.slice (some ⟨w.heap.size, (i + m) * 4, none⟩) (n + m - (i + m)) (G - (i + m))) (.slice (some ⟨b, i * 4, none⟩) (n - i) (c - i)) (by simp [Act.eval, Act.put]) (by simp [Act.eval, Act.put]) (hcpB _ hF1 hF2 3 (G - (i + m)) (c - i)) ?_)
    go_wp2
    go_ret
    exact ⟨rfl, rfl⟩
  exact key.mono fun e w' h => ⟨G, ROW, h.1, hGn, hG63, hR1, hR2, h.2⟩
end
theorem insC : InsC Tryz.prog 27 27 4 := by
  intro v n i vb vc cs vs w ho hne hov h1c h1v hi hn
  have hvl : vs.length = 1 * 4 := hov.1
  rcases hov.2 with ⟨h, _⟩ | ⟨vb', vc', curv, ev, _, hgv, qv1, qv2, qv3, qv4⟩
  · cases h
  injection ev with ev1 _ ev3
  injection ev1 with ev1
  injection ev1 with ev1
  subst ev1
  subst ev3
  have hvs : ∀ j u, vs[j]? = some u → w.cell? ⟨vb, j, none⟩ = some u := by
    intro j u hj
    rw [← qv4, List.getElem?_take] at hj
    split at hj
    · rw [Array.getElem?_toList] at hj
      simp [World.cell?, hgv, hj]
    · cases hj
  rcases ho.2 with ⟨rfl, hn0⟩ | ⟨b, c, cur, rfl, _, hg, q1, q2, q3, q4⟩
  · subst hn0
    have hi0 : i = 0 := by omega
    subst hi0
    have hcl : cs.length = 0 * 4 := ho.1
    have hc0 : cs = [] := List.length_eq_zero_iff.1 (by omega)
    subst hc0
    refine Calls.mono (ins_end (n := 0) (c := 0) (m := 1) (cs := []) none (by omega) (by omega) (by omega) (by omega) rfl hvl (fun _ => rfl) (fun a h => by cases h) hvs h1v) ?_
    rintro e' w' ⟨G, ROW, rfl, rfl, r1, r2, r3, r4⟩
    refine ⟨_, rfl, .inr (fun k hk => ?_), rfl, ⟨rfl, rfl, rfl, alloc_size w.drew _, fun k hk _ => ?_⟩, ⟨by simp; omega, .inr ⟨w.heap.size, G, ROW, rfl, Nat.zero_le _, ?_, r1, r2, r3, ?_⟩⟩⟩
    · have : w.heap.size = k := by simpa [Value.ownBlock] using hk
      omega
    · exact alloc_old w.drew _ hk
    · exact alloc_row w.drew _
    · rw [r4]
      simp
  · have hcl : cs.length = n * 4 := ho.1
    have q3' : cur.size = c * 4 := q3
    have hbv : vb ≠ b := fun h => hne (by rw [h]; rfl)
    have hcs : ∀ j u, cs[j]? = some u → w.cell? ⟨b, j, none⟩ = some u := by
      intro j u hj
      rw [← q4, List.getElem?_take] at hj
      split at hj
      · rw [Array.getElem?_toList] at hj
        simp [World.cell?, hg, hj]
      · cases hj
    have hblt : b < w.heap.size := by
      rcases Nat.lt_or_ge b w.heap.size with h | h
      · exact h
      · rw [Array.getElem?_eq_none h] at hg; cases hg
    have hsp : ∀ j, j < c * 4 → (w.cell? ⟨b, j, none⟩).isSome = true := fun j hj => by
      simp [World.cell?, hg, Array.getElem?_eq_getElem (show j < cur.size by omega)]
    have hfz : ∀ j, w.frozen? ⟨b, j, none⟩ = false := fun j => by simp [World.frozen?, hg]
    have hdi : cur.toList.take (i * 4) = cs.take (i * 4) := by
      rw [← q4, List.take_take, Nat.min_eq_left (by omega)]
    have hH := holds_cells hg
    by_cases hroom : n + 1 ≤ c
    · have hD1 : (n + 1) * 4 ≤ cur.size := by omega
      by_cases hin : i = n
      · subst hin
        refine Calls.mono (ins_room (b := b) (n := i) (c := c) (m := 1) (vb := vb) (vc := vc) (by omega) hroom q2 hvl (fun j hj => hsp _ (by omega)) (fun j hj => hfz _) hvs h1v) ?_
        rintro e' w' ⟨rfl, rfl⟩
        have e1 : w.setCells b (i * 4) vs = Go.Sort.putRow cellOf (Go.Sort.ahead w 0) b 0 (Go.Lib.lay cur (i * 4) vs) := by
          rw [← set_lay (by omega)]
          rw [show Go.Sort.putRow cellOf (Go.Sort.ahead w 0) b 0 cur = Go.Sort.ahead w 0 from Go.Sort.putRow_self cellOf _ b 0 cur (Go.Sort.holds_ahead cellOf w 0 b 0 cur hH)]
          rfl
        obtain ⟨p1, p2⟩ := put_row (q := 0) hg (show (Go.Lib.lay cur (i * 4) vs).size = cur.size from Go.Lib.lay_size _ _ _)
        rw [e1]
        refine ⟨_, rfl, .inl rfl, rfl, p2, ⟨?_, .inr ⟨b, c, _, rfl, Nat.zero_le _, p1, hroom, q2, by rw [Go.Lib.lay_size]; exact q3, ?_⟩⟩⟩
        · simp only [List.length_append, List.length_take, List.length_drop]; omega
        · have := (lay_ins (sz := 4) (i := i) hD1 hcl (by omega) (Nat.le_refl _) hdi).2
          rw [List.drop_eq_nil_of_le (by omega)] at this ⊢
          exact this
      · refine Calls.mono (ins_shift (b := b) (n := n) (c := c) (i := i) (m := 1) (vb := vb) (vc := vc) (by omega) (by omega) hroom q2 hbv hcl hvl hcs (fun j hj => hsp _ (by omega)) (fun j hj => hfz _) hvs h1c h1v 27 27 curv.size cur.size (by simp [World.shape?, hgv]) (by simp [World.shape?, hg]) (by omega) (by simp [World.frozen?, hgv]) (by simp [World.frozen?, hgv])) ?_
        rintro e' w' ⟨rfl, rfl⟩
        have e1 : (w.drew.setCells b ((i + 1) * 4) (cs.drop (i * 4))).setCells b (i * 4) vs = Go.Sort.putRow cellOf (Go.Sort.ahead w 1) b 0 (Go.Lib.lay (Go.Lib.lay cur ((i + 1) * 4) (cs.drop (i * 4))) (i * 4) vs) := by
          rw [← set_lay (by rw [Go.Lib.lay_size]; omega), ← set_lay (by rw [List.length_drop]; omega)]
          rw [show Go.Sort.putRow cellOf (Go.Sort.ahead w 1) b 0 cur = Go.Sort.ahead w 1 from Go.Sort.putRow_self cellOf _ b 0 cur (Go.Sort.holds_ahead cellOf w 1 b 0 cur hH)]
          rfl
        obtain ⟨p1, p2⟩ := put_row (q := 1) hg (show (Go.Lib.lay (Go.Lib.lay cur ((i + 1) * 4) (cs.drop (i * 4))) (i * 4) vs).size = cur.size by rw [Go.Lib.lay_size, Go.Lib.lay_size])
        rw [e1]
        refine ⟨_, rfl, .inl rfl, rfl, p2, ⟨?_, .inr ⟨b, c, _, rfl, Nat.zero_le _, p1, hroom, q2, by rw [Go.Lib.lay_size, Go.Lib.lay_size]; exact q3, ?_⟩⟩⟩
        · simp only [List.length_append, List.length_take, List.length_drop]; omega
        · exact (lay_ins (sz := 4) (i := i) hD1 hcl (by omega) hi hdi).1
    · by_cases hin : i = n
      · subst hin
        refine Calls.mono (ins_end (n := i) (c := c) (m := 1) (cs := cs) (some ⟨b, 0, none⟩) (by omega) q1 (by omega) (by omega) hcl hvl (fun h => by cases h) (fun a h j u hj => by
          injection h with h
          subst h
          rw [Addr.add_lit, Nat.zero_add]
          exact hcs j u hj) hvs h1v) ?_
        rintro e' w' ⟨G, ROW, rfl, rfl, r1, r2, r3, r4⟩
        refine ⟨_, rfl, .inr (fun k hk => ?_), rfl, ⟨rfl, rfl, rfl, alloc_size w.drew _, fun k hk _ => ?_⟩, ⟨?_, .inr ⟨w.heap.size, G, ROW, rfl, Nat.zero_le _, ?_, r1, r2, r3, ?_⟩⟩⟩
        · have : w.heap.size = k := by simpa [Value.ownBlock] using hk
          omega
        · exact alloc_old w.drew _ hk
        · simp only [List.length_append, List.length_take, List.length_drop]; omega
        · exact alloc_row w.drew _
        · rw [r4, List.take_of_length_le (by omega), List.drop_eq_nil_of_le (by omega), List.append_nil]
      · refine Calls.mono (ins_grow (b := b) (n := n) (c := c) (i := i) (m := 1) (vb := vb) (vc := vc) (by omega) (by omega) q1 (by omega) (by omega) hcl hvl hcs hvs h1c h1v) ?_
        rintro e' w' ⟨G, ROW, rfl, r1, r2, r3, r4, rfl⟩
        have hg2 : (w.alloc (.cells ROW 27)).heap[w.heap.size]? = some (.cells ROW 27 (0, 0)) := alloc_row w _
        have hH2 := holds_cells hg2
        have e1 : (((w.alloc (.cells ROW 27)).drew.setCells w.heap.size (i * 4) vs).drew).setCells w.heap.size ((i + 1) * 4) (cs.drop (i * 4)) = Go.Sort.putRow cellOf (Go.Sort.ahead (w.alloc (.cells ROW 27)) 2) w.heap.size 0 (Go.Lib.lay (Go.Lib.lay ROW (i * 4) vs) ((i + 1) * 4) (cs.drop (i * 4))) := by
          have e2 : (w.alloc (.cells ROW 27)).drew.setCells w.heap.size (i * 4) vs = Go.Sort.putRow cellOf (Go.Sort.ahead (w.alloc (.cells ROW 27)) 1) w.heap.size 0 (Go.Lib.lay ROW (i * 4) vs) := by
            rw [← set_lay (by omega)]
            rw [show Go.Sort.putRow cellOf (Go.Sort.ahead (w.alloc (.cells ROW 27)) 1) w.heap.size 0 ROW = Go.Sort.ahead (w.alloc (.cells ROW 27)) 1 from Go.Sort.putRow_self cellOf _ _ 0 ROW (Go.Sort.holds_ahead cellOf _ 1 _ 0 ROW hH2)]
            rfl
          rw [e2]
          exact set_lay (w := Go.Sort.ahead (w.alloc (.cells ROW 27)) 2) (b := w.heap.size) (d := Go.Lib.lay ROW (i * 4) vs) (xs := cs.drop (i * 4)) (k := (i + 1) * 4) (by rw [Go.Lib.lay_size, List.length_drop]; omega)
        obtain ⟨p1, p2⟩ := put_row (q := 2) hg2 (show (Go.Lib.lay (Go.Lib.lay ROW (i * 4) vs) ((i + 1) * 4) (cs.drop (i * 4))).size = ROW.size by rw [Go.Lib.lay_size, Go.Lib.lay_size])
        rw [e1]
        refine ⟨_, rfl, .inr (fun k hk => ?_), rfl, ⟨p2.os, p2.tape, p2.output, Nat.le_trans (alloc_size w _) p2.size, fun k hk _ => ?_⟩, ⟨?_, .inr ⟨w.heap.size, G, _, rfl, Nat.zero_le _, p1, r1, r2, by rw [Go.Lib.lay_size, Go.Lib.lay_size]; exact r3, ?_⟩⟩⟩
        · have : w.heap.size = k := by simpa [Value.ownBlock] using hk
          omega
        · rw [p2.block k (Nat.lt_of_lt_of_le hk (alloc_size w _)) (fun h => by injection h with h; omega)]
          exact alloc_old w _ hk
        · simp only [List.length_append, List.length_take, List.length_drop]; omega
        · exact (lay_ins (sz := 4) (i := i) (by omega) hcl (by omega) hi r4).2
end
theorem stands_27 : Stands Tryz.prog 27 := ⟨_, Tryz.func27, by kernel_rfl, by kernel_rfl⟩
theorem said_slices_Insert_impl_Entry (a0 : List TEntry) (a1 : Int) (a2 : List TEntry) (g : G.slices_Insert_impl_Entry a0 a1 a2 = true) : SaidX Tryz.prog sigs_27 27 [.lend (.slice 27 TyEntry) a0 (.own 0), .val (.int .i64) a1, .lend (.slice 27 TyEntry) a2 (.own 1)] [⟨(.slice 27 TyEntry), N.slices_Insert_impl_Entry a0 a1 a2⟩] := by
  obtain ⟨g1, g2⟩ := (Bool.and_eq_true _ _).mp g
  obtain ⟨g2, g3⟩ := (Bool.and_eq_true _ _).mp g2
  obtain ⟨g3, g4⟩ := (Bool.and_eq_true _ _).mp g3
  have g1 := of_decide_eq_true g1
  have g2 := of_decide_eq_true g2
  have q3 := of_decide_eq_true g3
  have g4 := of_decide_eq_true g4
  obtain ⟨i, rfl⟩ : ∃ i : Nat, a1 = (i : Int) := ⟨a1.toNat, by omega⟩
  obtain ⟨x, rfl⟩ := List.length_eq_one_iff.1 g4
  exact insert_said (t := TyEntry) (i := i) stands_27 insC (by omega) q3

abbrev G.impl_PutEntry (l : List TEntry) (e : TEntry) : Bool := decide (wEs l + wE e ≤ 1048576)
abbrev N.impl_PutEntry (l : List TEntry) (e : TEntry) : List TEntry × Bool := putE l e
def impl_PutEntry_P {ρ : Type} (f0 : (List TEntry) → (List TEntry)) (g0 : (List TEntry) → Bool) (f1 : (List TEntry) → Bool) (g1 : (List TEntry) → Bool) (f2 : (List TEntry) → ByteArray → (Int × Bool)) (g2 : (List TEntry) → ByteArray → Bool) (f3 : TEntry → TEntry) (g3 : TEntry → Bool) (f4 : (List TEntry) → Int → (List TEntry) → (List TEntry)) (g4 : (List TEntry) → Int → (List TEntry) → Bool) (k : (List TEntry) → Bool → Option ρ) (a0 : (List TEntry)) (a1 : TEntry) : Option ρ := (cond (g0 a0) (cond (g1 a0) (cond (!(f1 a0)) (k (f0 a0) false) (cond (g2 a0 a1.1) (cond (f2 a0 a1.1).2 (cond (g3 a1) (cond (inRange (f2 a0 a1.1).1 (List.length (f0 a0))) (cond (inRange (f2 a0 a1.1).1 (List.length (f0 a0))) (cond (g1 (List.set (f0 a0) (Int.toNat (f2 a0 a1.1).1) (f3 a1))) (cond (!(f1 (List.set (f0 a0) (Int.toNat (f2 a0 a1.1).1) (f3 a1)))) (cond (g0 a0) (k (f0 a0) false) none) (k (List.set (f0 a0) (Int.toNat (f2 a0 a1.1).1) (f3 a1)) true)) none) none) none) none) (cond (g3 a1) (cond (g4 (f0 a0) (f2 a0 a1.1).1 [(f3 a1)]) (cond (g1 (f4 (f0 a0) (f2 a0 a1.1).1 [(f3 a1)])) (cond (!(f1 (f4 (f0 a0) (f2 a0 a1.1).1 [(f3 a1)]))) (cond (g0 a0) (k (f0 a0) false) none) (k (f4 (f0 a0) (f2 a0 a1.1).1 [(f3 a1)]) true)) none) none) none)) none)) none) none)
def impl_PutEntry {ρ : Type} (k : (List TEntry) → Bool → Option ρ) (a0 : (List TEntry)) (a1 : TEntry) : Option ρ := impl_PutEntry_P N.impl_copyEntries G.impl_copyEntries N.impl_AreEntries G.impl_AreEntries N.slices_BinarySearchFunc_impl_Entry__impl_PutEntry_s1 G.slices_BinarySearchFunc_impl_Entry__impl_PutEntry_s1 N.impl_copyEntry G.impl_copyEntry N.slices_Insert_impl_Entry G.slices_Insert_impl_Entry k a0 a1
theorem impl_PutEntry_ok {ρ : Type} (k : (List TEntry) → Bool → Option ρ) (a0 : (List TEntry)) (a1 : TEntry) (l_a0 : lnL (fun y => (True ∧ (True ∧ (True ∧ lnL (fun _ => True) y.2.2.2)))) a0) (l_a1 : (True ∧ (True ∧ (True ∧ lnL (fun _ => True) a1.2.2.2)))) (g : G.impl_PutEntry a0 a1 = true) : impl_PutEntry k  a0 a1 = k (N.impl_PutEntry a0 a1).1 (N.impl_PutEntry a0 a1).2 := by
  unfold G.impl_PutEntry at g
  have hw : wEs a0 + wE a1 ≤ 1048576 := of_decide_eq_true g
  have hl := wEs_ge a0
  have hle := bsAt_le a0 a1.1
  have g1 : decide (wEs a0 ≤ 1048576) = true := decide_eq_true (by omega)
  have g2 : decide (wEs a0 ≤ 1048577) = true := decide_eq_true (by omega)
  have g3 : decide (a1.2.2.2.length ≤ 1048576) = true := decide_eq_true (by have := wE_ge a1; omega)
  have g4 : decide (a0.length ≤ 1048576) = true := decide_eq_true (by omega)
  have g5 : decide (wEs (putAs a0 a1) ≤ 1048577) = true := decide_eq_true (by have := putAs_w hle; omega)
  have g6 : G.slices_Insert_impl_Entry a0 (bsAt a0 a1.1 : Int) [a1] = true := by
    unfold G.slices_Insert_impl_Entry
    rw [decide_eq_true (by omega), decide_eq_true (by omega), decide_eq_true (by omega), decide_eq_true (show [a1].length = 1 from rfl)]
    rfl
  simp only [impl_PutEntry, impl_PutEntry_P, G.impl_copyEntries, N.impl_copyEntries, G.impl_AreEntries, N.impl_AreEntries, G.impl_copyEntry, N.impl_copyEntry, G.slices_BinarySearchFunc_impl_Entry__impl_PutEntry_s1, N.slices_BinarySearchFunc_impl_Entry__impl_PutEntry_s1, g1, g2, g3, g4, g6, cond_true, inRange_nat, Int.toNat_natCast]
  show _ = k (putE a0 a1).1 (putE a0 a1).2
  rw [putE_as]
  cases (!areEntries a0) with
  | true => rfl
  | false =>
    rw [cond_false, cond_false]
    cases hh : bsHit a0 a1.1 with
    | true =>
      have hlt : bsAt a0 a1.1 < a0.length := by
        have hh2 := hh
        unfold bsHit at hh2
        exact of_decide_eq_true ((Bool.and_eq_true _ _).mp hh2).1
      have ea : putAs a0 a1 = a0.set (bsAt a0 a1.1) a1 := by
        unfold putAs
        rw [hh]
        rfl
      rw [ea] at g5 ⊢
      simp only [decide_eq_true hlt, g5, cond_true]
      cases (!areEntries (a0.set (bsAt a0 a1.1) a1)) <;> rfl
    | false =>
      have ea : putAs a0 a1 = a0.insertIdx (bsAt a0 a1.1) a1 := by
        unfold putAs
        rw [hh]
        rfl
      rw [ea] at g5 ⊢
      simp only [N.slices_Insert_impl_Entry, Int.toNat_natCast, List.getD_cons_zero, g5, cond_true, cond_false]
      cases (!areEntries (a0.insertIdx (bsAt a0 a1.1) a1)) <;> rfl
def OP_impl_PutEntry (f0 : (List TEntry) → (List TEntry)) (g0 : (List TEntry) → Bool) (f1 : (List TEntry) → Bool) (g1 : (List TEntry) → Bool) (f2 : (List TEntry) → ByteArray → (Int × Bool)) (g2 : (List TEntry) → ByteArray → Bool) (f3 : TEntry → TEntry) (g3 : TEntry → Bool) (f4 : (List TEntry) → Int → (List TEntry) → (List TEntry)) (g4 : (List TEntry) → Int → (List TEntry) → Bool) : Orac := (orcX 27 [.lend .bool (.own 0), .lend (.slice 27 TyEntry) (.own 0), .val (.int .i64), .lend (.slice 27 TyEntry) (.own 1)] (fun d => g4 d.2.1 d.2.2.1 d.2.2.2.1) (fun d => [⟨(.slice 27 TyEntry), f4 d.2.1 d.2.2.1 d.2.2.2.1⟩]) (orcX 26 [.val TyEntry] (fun d => g3 d.1) (fun d => [⟨TyEntry, f3 d.1⟩]) (orcX 23 [.val (.slice 27 TyEntry), .val .str, .clo 24 []] (fun d => g2 d.1 d.2.1) (fun d => [⟨(.int .i64), (f2 d.1 d.2.1).1⟩, ⟨.bool, (f2 d.1 d.2.1).2⟩]) (orcX 11 [.val (.slice 27 TyEntry)] (fun d => g1 d.1) (fun d => [⟨.bool, f1 d.1⟩]) (orcX 22 [.val (.slice 27 TyEntry)] (fun d => g0 d.1) (fun d => [⟨(.slice 27 TyEntry), f0 d.1⟩]) nilO)))))
def O_impl_PutEntry : Orac := OP_impl_PutEntry N.impl_copyEntries G.impl_copyEntries N.impl_AreEntries G.impl_AreEntries N.slices_BinarySearchFunc_impl_Entry__impl_PutEntry_s1 G.slices_BinarySearchFunc_impl_Entry__impl_PutEntry_s1 N.impl_copyEntry G.impl_copyEntry N.slices_Insert_impl_Entry G.slices_Insert_impl_Entry
theorem ok_impl_PutEntry : OracOk Tryz.prog sigs O_impl_PutEntry := (orcV_ok rfl (fun d g => said_slices_Insert_impl_Entry d.2.1 d.2.2.1 d.2.2.2.1 g) (orcX_ok rfl rfl (fun d g => said_impl_copyEntry d.1 g) (orcX_ok rfl rfl (fun d g => said_slices_BinarySearchFunc_impl_Entry__impl_PutEntry_s1 d.1 d.2.1 g) (orcX_ok rfl rfl (fun d g => said_impl_AreEntries d.1 g) (orcX_ok rfl rfl (fun d g => said_impl_copyEntries d.1 g) nilO_ok)))))
def A_impl_PutEntry : Ann := fun b => ⟨[], []⟩
theorem aP_impl_PutEntry (f0 : (List TEntry) → (List TEntry)) (g0 : (List TEntry) → Bool) (f1 : (List TEntry) → Bool) (g1 : (List TEntry) → Bool) (f2 : (List TEntry) → ByteArray → (Int × Bool)) (g2 : (List TEntry) → ByteArray → Bool) (f3 : TEntry → TEntry) (g3 : TEntry → Bool) (f4 : (List TEntry) → Int → (List TEntry) → (List TEntry)) (g4 : (List TEntry) → Int → (List TEntry) → Bool) (n : Nat) (a0 : (List TEntry)) (a1 : TEntry) : absF tab sigs (OP_impl_PutEntry f0 g0 f1 g1 f2 g2 f3 g3 f4 g4) A_impl_PutEntry Tryz.f6 [((.slice 27 TyEntry), .no), (.bool, .no)] n [.val (.slice 27 TyEntry) a0, .val TyEntry a1] = impl_PutEntry_P f0 g0 f1 g1 f2 g2 f3 g3 f4 g4 (fun r0 r1 => some [⟨(.slice 27 TyEntry), r0⟩, ⟨.bool, r1⟩])  a0 a1 := by kernel_rfl
theorem said_impl_PutEntry (a0 : (List TEntry)) (a1 : TEntry) (g : G.impl_PutEntry a0 a1 = true) : Said Tryz.prog sigs_6 6 [.val (.slice 27 TyEntry) a0, .val TyEntry a1] [⟨(.slice 27 TyEntry), (N.impl_PutEntry a0 a1).1⟩, ⟨.bool, (N.impl_PutEntry a0 a1).2⟩] := said_len (T := tab) (A := A_impl_PutEntry) tabOk ok_impl_PutEntry tabOk.follows Tryz.func6 (by kernel_rfl) (by kernel_rfl) (fun hl => ⟨0, (aP_impl_PutEntry N.impl_copyEntries G.impl_copyEntries N.impl_AreEntries G.impl_AreEntries N.slices_BinarySearchFunc_impl_Entry__impl_PutEntry_s1 G.slices_BinarySearchFunc_impl_Entry__impl_PutEntry_s1 N.impl_copyEntry G.impl_copyEntry N.slices_Insert_impl_Entry G.slices_Insert_impl_Entry 0 a0 a1).trans (impl_PutEntry_ok (ρ := Ret) (fun r0 r1 => some [⟨(.slice 27 TyEntry), r0⟩, ⟨.bool, r1⟩]) a0 a1 hl.1 hl.2.1 g)⟩)
abbrev N.slices_Equal_string (a b : List ByteArray) : Bool := eqStrs a b
def slices_Equal_string_L0 {ρ : Type} (k : Bool → Option ρ) (L0 : (List ByteArray) → (List ByteArray) → Int → Int → Option ρ) (v0_0 : (List ByteArray)) (v0_1 : (List ByteArray)) (v0_2 : Int) (v0_3 : Int) : Option ρ := (cond (decide (v0_3 < v0_2)) (cond (inRange v0_3 (List.length v0_0)) (cond (inRange v0_3 (List.length v0_1)) (cond (!((ByteArray.toList (List.getD v0_0 (Int.toNat v0_3) ByteArray.empty)) == (ByteArray.toList (List.getD v0_1 (Int.toNat v0_3) ByteArray.empty)))) (k false) (L0 v0_0 v0_1 v0_2 (IntKind.wrap .i64 (v0_3 + (1 : Int))))) none) none) (k true))
def slices_Equal_string {ρ : Type} (k : Bool → Option ρ) (L0 : (List ByteArray) → (List ByteArray) → Int → Int → Option ρ) (a0 : (List ByteArray)) (a1 : (List ByteArray)) : Option ρ := (cond ((List.length a0 : Int) != (List.length a1 : Int)) (k false) (L0 a0 a1 (List.length a0 : Int) (0 : Int)))
theorem slices_Equal_string_ok {ρ : Type} (k : Bool → Option ρ) (a0 : (List ByteArray)) (a1 : (List ByteArray)) (l_a0 : lnL (fun _ => True) a0) (l_a1 : lnL (fun _ => True) a1) : ∃ n0, ∀ n, n0 ≤ n → ∀ (L0 : Nat → (List ByteArray) → (List ByteArray) → Int → Int → Option ρ) (h0 : ∀ ( m : Nat) (v0_0 : (List ByteArray)) (v0_1 : (List ByteArray)) (v0_2 : Int) (v0_3 : Int), L0 (m + 1) v0_0 v0_1 v0_2 v0_3 = slices_Equal_string_L0 k (L0 m) v0_0 v0_1 v0_2 v0_3), slices_Equal_string k (L0 n) a0 a1 = k (N.slices_Equal_string a0 a1) := by
  exact ⟨a0.length + 1, fun n hn L0 h0 => eq_all (p := eqStr) (d := ByteArray.empty) l_a0.1 (L := fun m i => L0 m a0 a1 (a0.length : Int) i) (fun m i => h0 m a0 a1 (a0.length : Int) i) hn⟩
def O_slices_Equal_string : Orac := nilO
theorem ok_slices_Equal_string : OracOk Tryz.prog sigs O_slices_Equal_string := nilO_ok
def A_slices_Equal_string : Ann := fun b => cond (Nat.beq b 0) ⟨[(0, false), (1, false), (12, false), (13, false)], []⟩ (⟨[], []⟩)
def S_slices_Equal_string_0 (v0_0 : (List ByteArray)) (v0_1 : (List ByteArray)) (v0_2 : Int) (v0_3 : Int) : St := [(kT 0, some (.tv (.v (.slice 9 .str) v0_0 .no))), (kT 1, some (.tv (.v (.slice 9 .str) v0_1 .no))), (kT 12, some (.tv (.v (.int .i64) v0_2 .no))), (kT 13, some (.tv (.v (.int .i64) v0_3 .no)))]
noncomputable def L_slices_Equal_string_0 (n m : Nat) : St → Option Ret := loopOf tab sigs O_slices_Equal_string A_slices_Equal_string Tryz.f34 [(.bool, .no)] n (fun _ => 0) 0 m
theorem b_slices_Equal_string_0 (n m : Nat) (v0_0 : (List ByteArray)) (v0_1 : (List ByteArray)) (v0_2 : Int) (v0_3 : Int) : L_slices_Equal_string_0 n (m + 1) (S_slices_Equal_string_0 v0_0 v0_1 v0_2 v0_3) = slices_Equal_string_L0 (fun r0 => some [⟨.bool, r0⟩]) (fun v0_0 v0_1 v0_2 v0_3 => L_slices_Equal_string_0 n m (S_slices_Equal_string_0 v0_0 v0_1 v0_2 v0_3)) v0_0 v0_1 v0_2 v0_3 := by kernel_rfl
theorem a_slices_Equal_string (n : Nat) (a0 : (List ByteArray)) (a1 : (List ByteArray)) : absF tab sigs O_slices_Equal_string A_slices_Equal_string Tryz.f34 [(.bool, .no)] n [.val (.slice 9 .str) a0, .val (.slice 9 .str) a1] = slices_Equal_string (fun r0 => some [⟨.bool, r0⟩]) (fun v0_0 v0_1 v0_2 v0_3 => L_slices_Equal_string_0 n n (S_slices_Equal_string_0 v0_0 v0_1 v0_2 v0_3)) a0 a1 := by kernel_rfl
theorem said_slices_Equal_string (a0 : (List ByteArray)) (a1 : (List ByteArray)) : Said Tryz.prog sigs_34 34 [.val (.slice 9 .str) a0, .val (.slice 9 .str) a1] [⟨.bool, N.slices_Equal_string a0 a1⟩] := said_len (T := tab) (A := A_slices_Equal_string) tabOk ok_slices_Equal_string tabOk.follows Tryz.func34 (by kernel_rfl) (by kernel_rfl) (fun hl => let ⟨n, hn⟩ := slices_Equal_string_ok (ρ := Ret) (fun r0 => some [⟨.bool, r0⟩]) a0 a1 hl.1 hl.2.1; ⟨n, (a_slices_Equal_string n a0 a1).trans (hn n (Nat.le_refl n) (fun  m v0_0 v0_1 v0_2 v0_3 => L_slices_Equal_string_0 n  m (S_slices_Equal_string_0 v0_0 v0_1 v0_2 v0_3)) (fun  m v0_0 v0_1 v0_2 v0_3 => b_slices_Equal_string_0 n  m v0_0 v0_1 v0_2 v0_3))⟩)
abbrev N.impl_EqualEntries (a b : TEntry) : Bool := eqEntry a b
def impl_EqualEntries {ρ : Type} (k : Bool → Option ρ) (a0 : TEntry) (a1 : TEntry) : Option ρ := (cond ((ByteArray.toList a0.1) == (ByteArray.toList a1.1)) (cond (a0.2.1 == a1.2.1) (cond (a0.2.2.1 == a1.2.2.1) (k (N.slices_Equal_string a0.2.2.2 a1.2.2.2)) (k false)) (k false)) (k false))
theorem impl_EqualEntries_ok {ρ : Type} (k : Bool → Option ρ) (a0 : TEntry) (a1 : TEntry) (l_a0 : (True ∧ (True ∧ (True ∧ lnL (fun _ => True) a0.2.2.2)))) (l_a1 : (True ∧ (True ∧ (True ∧ lnL (fun _ => True) a1.2.2.2)))) : impl_EqualEntries k  a0 a1 = k (N.impl_EqualEntries a0 a1) := by
  simp only [impl_EqualEntries, eqEntry, eqStr]
  cases a0.1.toList == a1.1.toList
  · rfl
  cases a0.2.1 == a1.2.1
  · rfl
  cases a0.2.2.1 == a1.2.2.1 <;> rfl
def OP_impl_EqualEntries (f0 : (List ByteArray) → (List ByteArray) → Bool) : Orac := (orcX 34 [.val (.slice 9 .str), .val (.slice 9 .str)] (fun d => true) (fun d => [⟨.bool, f0 d.1 d.2.1⟩]) nilO)
def O_impl_EqualEntries : Orac := OP_impl_EqualEntries N.slices_Equal_string
def impl_EqualEntries_P {ρ : Type} (f0 : (List ByteArray) → (List ByteArray) → Bool) (k : Bool → Option ρ) (a0 : TEntry) (a1 : TEntry) : Option ρ := (cond ((ByteArray.toList a0.1) == (ByteArray.toList a1.1)) (cond (a0.2.1 == a1.2.1) (cond (a0.2.2.1 == a1.2.2.1) (k (f0 a0.2.2.2 a1.2.2.2)) (k false)) (k false)) (k false))
theorem ok_impl_EqualEntries : OracOk Tryz.prog sigs O_impl_EqualEntries := (orcX_ok rfl rfl (fun d g => said_slices_Equal_string d.1 d.2.1) nilO_ok)
def A_impl_EqualEntries : Ann := fun b => ⟨[], []⟩
theorem aP_impl_EqualEntries (f0 : (List ByteArray) → (List ByteArray) → Bool) (n : Nat) (a0 : TEntry) (a1 : TEntry) : absF tab sigs (OP_impl_EqualEntries f0) A_impl_EqualEntries Tryz.f10 [(.bool, .no)] n [.val TyEntry a0, .val TyEntry a1] = impl_EqualEntries_P f0 (fun r0 => some [⟨.bool, r0⟩])  a0 a1 := by kernel_rfl
theorem said_impl_EqualEntries (a0 : TEntry) (a1 : TEntry) : Said Tryz.prog sigs_10 10 [.val TyEntry a0, .val TyEntry a1] [⟨.bool, N.impl_EqualEntries a0 a1⟩] := said_len (T := tab) (A := A_impl_EqualEntries) tabOk ok_impl_EqualEntries tabOk.follows Tryz.func10 (by kernel_rfl) (by kernel_rfl) (fun hl => ⟨0, (aP_impl_EqualEntries N.slices_Equal_string 0 a0 a1).trans (impl_EqualEntries_ok (ρ := Ret) (fun r0 => some [⟨.bool, r0⟩]) a0 a1 hl.1 hl.2.1)⟩)
abbrev N.slices_EqualFunc_impl_Entry__impl_EqualEntries (a b : List TEntry) : Bool := eqEntries a b
def slices_EqualFunc_impl_Entry__impl_EqualEntries_P_L0 {ρ : Type} (f0 : TEntry → TEntry → Bool) (k : Bool → Option ρ) (L0 : (List TEntry) → (List TEntry) → Int → Int → Option ρ) (v0_0 : (List TEntry)) (v0_1 : (List TEntry)) (v0_2 : Int) (v0_3 : Int) : Option ρ := (cond (decide (v0_3 < v0_2)) (cond (inRange v0_3 (List.length v0_1)) (cond (inRange v0_3 (List.length v0_0)) (cond (!(f0 (List.getD v0_1 (Int.toNat v0_3) (ByteArray.empty, ((0 : Int), ((0 : Int), [])))) (List.getD v0_0 (Int.toNat v0_3) (ByteArray.empty, ((0 : Int), ((0 : Int), [])))))) (k false) (L0 v0_0 v0_1 v0_2 (IntKind.wrap .i64 (v0_3 + (1 : Int))))) none) none) (k true))
def slices_EqualFunc_impl_Entry__impl_EqualEntries_P {ρ : Type} (f0 : TEntry → TEntry → Bool) (k : Bool → Option ρ) (L0 : (List TEntry) → (List TEntry) → Int → Int → Option ρ) (a0 : (List TEntry)) (a1 : (List TEntry)) : Option ρ := (cond ((List.length a0 : Int) != (List.length a1 : Int)) (k false) (L0 a1 a0 (List.length a0 : Int) (0 : Int)))
def slices_EqualFunc_impl_Entry__impl_EqualEntries_L0 {ρ : Type} (k : Bool → Option ρ) (L0 : (List TEntry) → (List TEntry) → Int → Int → Option ρ) (v0_0 : (List TEntry)) (v0_1 : (List TEntry)) (v0_2 : Int) (v0_3 : Int) : Option ρ := slices_EqualFunc_impl_Entry__impl_EqualEntries_P_L0 N.impl_EqualEntries k L0 v0_0 v0_1 v0_2 v0_3
def slices_EqualFunc_impl_Entry__impl_EqualEntries {ρ : Type} (k : Bool → Option ρ) (L0 : (List TEntry) → (List TEntry) → Int → Int → Option ρ) (a0 : (List TEntry)) (a1 : (List TEntry)) : Option ρ := slices_EqualFunc_impl_Entry__impl_EqualEntries_P N.impl_EqualEntries k L0 a0 a1
theorem slices_EqualFunc_impl_Entry__impl_EqualEntries_ok {ρ : Type} (k : Bool → Option ρ) (a0 : (List TEntry)) (a1 : (List TEntry)) (l_a0 : lnL (fun y => (True ∧ (True ∧ (True ∧ lnL (fun _ => True) y.2.2.2)))) a0) (l_a1 : lnL (fun y => (True ∧ (True ∧ (True ∧ lnL (fun _ => True) y.2.2.2)))) a1) : ∃ n0, ∀ n, n0 ≤ n → ∀ (L0 : Nat → (List TEntry) → (List TEntry) → Int → Int → Option ρ) (h0 : ∀ ( m : Nat) (v0_0 : (List TEntry)) (v0_1 : (List TEntry)) (v0_2 : Int) (v0_3 : Int), L0 (m + 1) v0_0 v0_1 v0_2 v0_3 = slices_EqualFunc_impl_Entry__impl_EqualEntries_L0 k (L0 m) v0_0 v0_1 v0_2 v0_3), slices_EqualFunc_impl_Entry__impl_EqualEntries k (L0 n) a0 a1 = k (N.slices_EqualFunc_impl_Entry__impl_EqualEntries a0 a1) := by
  exact ⟨a0.length + 1, fun n hn L0 h0 => eq_all (p := eqEntry) (d := (ByteArray.empty, (0, (0, [])))) l_a0.1 (L := fun m i => L0 m a1 a0 (a0.length : Int) i) (fun m i => h0 m a1 a0 (a0.length : Int) i) hn⟩
def OP_slices_EqualFunc_impl_Entry__impl_EqualEntries (f0 : TEntry → TEntry → Bool) : Orac := (orcX 10 [.val TyEntry, .val TyEntry] (fun d => true) (fun d => [⟨.bool, f0 d.1 d.2.1⟩]) nilO)
def O_slices_EqualFunc_impl_Entry__impl_EqualEntries : Orac := OP_slices_EqualFunc_impl_Entry__impl_EqualEntries N.impl_EqualEntries
theorem ok_slices_EqualFunc_impl_Entry__impl_EqualEntries : OracOk Tryz.prog sigs O_slices_EqualFunc_impl_Entry__impl_EqualEntries := (orcX_ok rfl rfl (fun d g => said_impl_EqualEntries d.1 d.2.1) nilO_ok)
def A_slices_EqualFunc_impl_Entry__impl_EqualEntries : Ann := fun b => cond (Nat.beq b 0) ⟨[(1, false), (2, false), (15, false), (16, false), (17, false)], []⟩ (⟨[], []⟩)
def S_slices_EqualFunc_impl_Entry__impl_EqualEntries_0 (v0_0 : (List TEntry)) (v0_1 : (List TEntry)) (v0_2 : Int) (v0_3 : Int) : St := [(kT 1, some (.tv (.v (.slice 27 TyEntry) v0_0 .no))), (kT 2, some (.tv (.clo 10 []))), (kT 15, some (.tv (.v (.slice 27 TyEntry) v0_1 .no))), (kT 16, some (.tv (.v (.int .i64) v0_2 .no))), (kT 17, some (.tv (.v (.int .i64) v0_3 .no)))]
noncomputable def L_P_slices_EqualFunc_impl_Entry__impl_EqualEntries_0 (f0 : TEntry → TEntry → Bool) (n m : Nat) : St → Option Ret := loopOf tab sigs (OP_slices_EqualFunc_impl_Entry__impl_EqualEntries f0) A_slices_EqualFunc_impl_Entry__impl_EqualEntries Tryz.f31 [(.bool, .no)] n (fun _ => 0) 0 m
theorem bP_slices_EqualFunc_impl_Entry__impl_EqualEntries_0 (f0 : TEntry → TEntry → Bool) (n m : Nat) (v0_0 : (List TEntry)) (v0_1 : (List TEntry)) (v0_2 : Int) (v0_3 : Int) : L_P_slices_EqualFunc_impl_Entry__impl_EqualEntries_0 f0 n (m + 1) (S_slices_EqualFunc_impl_Entry__impl_EqualEntries_0 v0_0 v0_1 v0_2 v0_3) = slices_EqualFunc_impl_Entry__impl_EqualEntries_P_L0 f0 (fun r0 => some [⟨.bool, r0⟩]) (fun v0_0 v0_1 v0_2 v0_3 => L_P_slices_EqualFunc_impl_Entry__impl_EqualEntries_0 f0 n m (S_slices_EqualFunc_impl_Entry__impl_EqualEntries_0 v0_0 v0_1 v0_2 v0_3)) v0_0 v0_1 v0_2 v0_3 := by kernel_rfl
theorem aP_slices_EqualFunc_impl_Entry__impl_EqualEntries (f0 : TEntry → TEntry → Bool) (n : Nat) (a0 : (List TEntry)) (a1 : (List TEntry)) : absF tab sigs (OP_slices_EqualFunc_impl_Entry__impl_EqualEntries f0) A_slices_EqualFunc_impl_Entry__impl_EqualEntries Tryz.f31 [(.bool, .no)] n [.val (.slice 27 TyEntry) a0, .val (.slice 27 TyEntry) a1, .clo 10 []] = slices_EqualFunc_impl_Entry__impl_EqualEntries_P f0 (fun r0 => some [⟨.bool, r0⟩]) (fun v0_0 v0_1 v0_2 v0_3 => L_P_slices_EqualFunc_impl_Entry__impl_EqualEntries_0 f0 n n (S_slices_EqualFunc_impl_Entry__impl_EqualEntries_0 v0_0 v0_1 v0_2 v0_3)) a0 a1 := by kernel_rfl
theorem said_slices_EqualFunc_impl_Entry__impl_EqualEntries (a0 : (List TEntry)) (a1 : (List TEntry)) : Said Tryz.prog sigs_31 31 [.val (.slice 27 TyEntry) a0, .val (.slice 27 TyEntry) a1, .clo 10 []] [⟨.bool, N.slices_EqualFunc_impl_Entry__impl_EqualEntries a0 a1⟩] := said_len (T := tab) (A := A_slices_EqualFunc_impl_Entry__impl_EqualEntries) tabOk ok_slices_EqualFunc_impl_Entry__impl_EqualEntries tabOk.follows Tryz.func31 (by kernel_rfl) (by kernel_rfl) (fun hl => let ⟨n, hn⟩ := slices_EqualFunc_impl_Entry__impl_EqualEntries_ok (ρ := Ret) (fun r0 => some [⟨.bool, r0⟩]) a0 a1 hl.1 hl.2.1; ⟨n, (aP_slices_EqualFunc_impl_Entry__impl_EqualEntries N.impl_EqualEntries n a0 a1).trans (hn n (Nat.le_refl n) (fun  m v0_0 v0_1 v0_2 v0_3 => L_P_slices_EqualFunc_impl_Entry__impl_EqualEntries_0 N.impl_EqualEntries n  m (S_slices_EqualFunc_impl_Entry__impl_EqualEntries_0 v0_0 v0_1 v0_2 v0_3)) (fun  m v0_0 v0_1 v0_2 v0_3 => bP_slices_EqualFunc_impl_Entry__impl_EqualEntries_0 N.impl_EqualEntries n  m v0_0 v0_1 v0_2 v0_3))⟩)
abbrev N.impl_SameEntries (a b : List TEntry) : Bool := eqEntries a b
def impl_SameEntries {ρ : Type} (k : Bool → Option ρ) (a0 : (List TEntry)) (a1 : (List TEntry)) : Option ρ := (k (N.slices_EqualFunc_impl_Entry__impl_EqualEntries a0 a1))
theorem impl_SameEntries_ok {ρ : Type} (k : Bool → Option ρ) (a0 : (List TEntry)) (a1 : (List TEntry)) (l_a0 : lnL (fun y => (True ∧ (True ∧ (True ∧ lnL (fun _ => True) y.2.2.2)))) a0) (l_a1 : lnL (fun y => (True ∧ (True ∧ (True ∧ lnL (fun _ => True) y.2.2.2)))) a1) : impl_SameEntries k  a0 a1 = k (N.impl_SameEntries a0 a1) := by
  rfl
def OP_impl_SameEntries (f0 : (List TEntry) → (List TEntry) → Bool) : Orac := (orcX 31 [.val (.slice 27 TyEntry), .val (.slice 27 TyEntry), .clo 10 []] (fun d => true) (fun d => [⟨.bool, f0 d.1 d.2.1⟩]) nilO)
def O_impl_SameEntries : Orac := OP_impl_SameEntries N.slices_EqualFunc_impl_Entry__impl_EqualEntries
def impl_SameEntries_P {ρ : Type} (f0 : (List TEntry) → (List TEntry) → Bool) (k : Bool → Option ρ) (a0 : (List TEntry)) (a1 : (List TEntry)) : Option ρ := (k (f0 a0 a1))
theorem ok_impl_SameEntries : OracOk Tryz.prog sigs O_impl_SameEntries := (orcX_ok rfl rfl (fun d g => said_slices_EqualFunc_impl_Entry__impl_EqualEntries d.1 d.2.1) nilO_ok)
def A_impl_SameEntries : Ann := fun b => ⟨[], []⟩
theorem aP_impl_SameEntries (f0 : (List TEntry) → (List TEntry) → Bool) (n : Nat) (a0 : (List TEntry)) (a1 : (List TEntry)) : absF tab sigs (OP_impl_SameEntries f0) A_impl_SameEntries Tryz.f8 [(.bool, .no)] n [.val (.slice 27 TyEntry) a0, .val (.slice 27 TyEntry) a1] = impl_SameEntries_P f0 (fun r0 => some [⟨.bool, r0⟩])  a0 a1 := by kernel_rfl
theorem said_impl_SameEntries (a0 : (List TEntry)) (a1 : (List TEntry)) : Said Tryz.prog sigs_8 8 [.val (.slice 27 TyEntry) a0, .val (.slice 27 TyEntry) a1] [⟨.bool, N.impl_SameEntries a0 a1⟩] := said_len (T := tab) (A := A_impl_SameEntries) tabOk ok_impl_SameEntries tabOk.follows Tryz.func8 (by kernel_rfl) (by kernel_rfl) (fun hl => ⟨0, (aP_impl_SameEntries N.slices_EqualFunc_impl_Entry__impl_EqualEntries 0 a0 a1).trans (impl_SameEntries_ok (ρ := Ret) (fun r0 => some [⟨.bool, r0⟩]) a0 a1 hl.1 hl.2.1)⟩)
abbrev N.impl_FindEntry_s1 (e : TEntry) (s : ByteArray) : Bool := eqStr e.1 s
def impl_FindEntry_s1 {ρ : Type} (k : Bool → Option ρ) (a0 : TEntry) (a1 : ByteArray) : Option ρ := (k ((ByteArray.toList a0.1) == (ByteArray.toList a1)))
theorem impl_FindEntry_s1_ok {ρ : Type} (k : Bool → Option ρ) (a0 : TEntry) (a1 : ByteArray) (l_a0 : (True ∧ (True ∧ (True ∧ lnL (fun _ => True) a0.2.2.2)))) : impl_FindEntry_s1 k  a0 a1 = k (N.impl_FindEntry_s1 a0 a1) := by
  rfl
def O_impl_FindEntry_s1 : Orac := nilO
theorem ok_impl_FindEntry_s1 : OracOk Tryz.prog sigs O_impl_FindEntry_s1 := nilO_ok
def A_impl_FindEntry_s1 : Ann := fun b => ⟨[], []⟩
theorem a_impl_FindEntry_s1 (n : Nat) (a0 : TEntry) (a1 : ByteArray) : absF tab sigs O_impl_FindEntry_s1 A_impl_FindEntry_s1 Tryz.f33 [(.bool, .no)] n [.val TyEntry a0, .ref .str a1] = impl_FindEntry_s1 (fun r0 => some [⟨.bool, r0⟩])  a0 a1 := by kernel_rfl
theorem said_impl_FindEntry_s1 (a0 : TEntry) (a1 : ByteArray) : Said Tryz.prog sigs_33 33 [.val TyEntry a0, .ref .str a1] [⟨.bool, N.impl_FindEntry_s1 a0 a1⟩] := said_len (T := tab) (A := A_impl_FindEntry_s1) tabOk ok_impl_FindEntry_s1 tabOk.follows Tryz.func33 (by kernel_rfl) (by kernel_rfl) (fun hl => ⟨0, (a_impl_FindEntry_s1 0 a0 a1).trans (impl_FindEntry_s1_ok (ρ := Ret) (fun r0 => some [⟨.bool, r0⟩]) a0 a1 hl.1)⟩)
abbrev N.slices_IndexFunc_impl_Entry__impl_FindEntry_s1 (l : List TEntry) (s : ByteArray) : Int := findEntry l s
def slices_IndexFunc_impl_Entry__impl_FindEntry_s1_P_L0 {ρ : Type} (f0 : TEntry → ByteArray → Bool) (k : Int → Option ρ) (L0 : (List TEntry) → ByteArray → Int → Int → Option ρ) (v0_0 : (List TEntry)) (v0_1 : ByteArray) (v0_2 : Int) (v0_3 : Int) : Option ρ := (cond (decide (v0_3 < v0_2)) (cond (inRange v0_3 (List.length v0_0)) (cond (f0 (List.getD v0_0 (Int.toNat v0_3) (ByteArray.empty, ((0 : Int), ((0 : Int), [])))) v0_1) (k v0_3) (L0 v0_0 v0_1 v0_2 (IntKind.wrap .i64 (v0_3 + (1 : Int))))) none) (k (-1 : Int)))
def slices_IndexFunc_impl_Entry__impl_FindEntry_s1_P {ρ : Type} (f0 : TEntry → ByteArray → Bool) (k : Int → Option ρ) (L0 : (List TEntry) → ByteArray → Int → Int → Option ρ) (a0 : (List TEntry)) (c1_0 : ByteArray) : Option ρ := (L0 a0 c1_0 (List.length a0 : Int) (0 : Int))
def slices_IndexFunc_impl_Entry__impl_FindEntry_s1_L0 {ρ : Type} (k : Int → Option ρ) (L0 : (List TEntry) → ByteArray → Int → Int → Option ρ) (v0_0 : (List TEntry)) (v0_1 : ByteArray) (v0_2 : Int) (v0_3 : Int) : Option ρ := slices_IndexFunc_impl_Entry__impl_FindEntry_s1_P_L0 N.impl_FindEntry_s1 k L0 v0_0 v0_1 v0_2 v0_3
def slices_IndexFunc_impl_Entry__impl_FindEntry_s1 {ρ : Type} (k : Int → Option ρ) (L0 : (List TEntry) → ByteArray → Int → Int → Option ρ) (a0 : (List TEntry)) (c1_0 : ByteArray) : Option ρ := slices_IndexFunc_impl_Entry__impl_FindEntry_s1_P N.impl_FindEntry_s1 k L0 a0 c1_0
theorem slices_IndexFunc_impl_Entry__impl_FindEntry_s1_ok {ρ : Type} (k : Int → Option ρ) (a0 : (List TEntry)) (c1_0 : ByteArray) (l_a0 : lnL (fun y => (True ∧ (True ∧ (True ∧ lnL (fun _ => True) y.2.2.2)))) a0) : ∃ n0, ∀ n, n0 ≤ n → ∀ (L0 : Nat → (List TEntry) → ByteArray → Int → Int → Option ρ) (h0 : ∀ ( m : Nat) (v0_0 : (List TEntry)) (v0_1 : ByteArray) (v0_2 : Int) (v0_3 : Int), L0 (m + 1) v0_0 v0_1 v0_2 v0_3 = slices_IndexFunc_impl_Entry__impl_FindEntry_s1_L0 k (L0 m) v0_0 v0_1 v0_2 v0_3), slices_IndexFunc_impl_Entry__impl_FindEntry_s1 k (L0 n) a0 c1_0 = k (N.slices_IndexFunc_impl_Entry__impl_FindEntry_s1 a0 c1_0) := by
  refine ⟨a0.length + 1, fun n hn L0 h0 => ?_⟩
  refine raw_idx (a := a0) (ByteArray.empty, (0, (0, []))) (fun e => eqStr e.1 c1_0) (k := k) (σ := Unit) (s := ()) (L := fun m i _ => L0 m a0 c1_0 (a0.length : Int) i) (R := fun i s c => slices_IndexFunc_impl_Entry__impl_FindEntry_s1_L0 k (fun _ _ _ i => c i ()) a0 c1_0 (a0.length : Int) i) (fun m i s => h0 m a0 c1_0 (a0.length : Int) i) (fun j s c hj => ?_) (fun s c => ?_) hn
  · have : j < big := by have := l_a0.1; omega
    simp [slices_IndexFunc_impl_Entry__impl_FindEntry_s1_L0, slices_IndexFunc_impl_Entry__impl_FindEntry_s1_P_L0, lt_nat, inRange_nat, hj, wrap_succ this, eqStr]
  · simp [slices_IndexFunc_impl_Entry__impl_FindEntry_s1_L0, slices_IndexFunc_impl_Entry__impl_FindEntry_s1_P_L0]
def OP_slices_IndexFunc_impl_Entry__impl_FindEntry_s1 (f0 : TEntry → ByteArray → Bool) : Orac := (orcX 33 [.val TyEntry, .ref .str] (fun d => true) (fun d => [⟨.bool, f0 d.1 d.2.1⟩]) nilO)
def O_slices_IndexFunc_impl_Entry__impl_FindEntry_s1 : Orac := OP_slices_IndexFunc_impl_Entry__impl_FindEntry_s1 N.impl_FindEntry_s1
theorem ok_slices_IndexFunc_impl_Entry__impl_FindEntry_s1 : OracOk Tryz.prog sigs O_slices_IndexFunc_impl_Entry__impl_FindEntry_s1 := (orcX_ok rfl rfl (fun d g => said_impl_FindEntry_s1 d.1 d.2.1) nilO_ok)
def A_slices_IndexFunc_impl_Entry__impl_FindEntry_s1 : Ann := fun b => cond (Nat.beq b 0) ⟨[(0, false), (1, false), (7, false), (8, false)], []⟩ (⟨[], []⟩)
def S_slices_IndexFunc_impl_Entry__impl_FindEntry_s1_0 (v0_0 : (List TEntry)) (v0_1 : ByteArray) (v0_2 : Int) (v0_3 : Int) : St := [(kT 0, some (.tv (.v (.slice 27 TyEntry) v0_0 .no))), (kT 1, some (.tv (.clo 33 [(.ref .str v0_1)]))), (kT 7, some (.tv (.v (.int .i64) v0_2 .no))), (kT 8, some (.tv (.v (.int .i64) v0_3 .no)))]
noncomputable def L_P_slices_IndexFunc_impl_Entry__impl_FindEntry_s1_0 (f0 : TEntry → ByteArray → Bool) (n m : Nat) : St → Option Ret := loopOf tab sigs (OP_slices_IndexFunc_impl_Entry__impl_FindEntry_s1 f0) A_slices_IndexFunc_impl_Entry__impl_FindEntry_s1 Tryz.f32 [((.int .i64), .no)] n (fun _ => 0) 0 m
theorem bP_slices_IndexFunc_impl_Entry__impl_FindEntry_s1_0 (f0 : TEntry → ByteArray → Bool) (n m : Nat) (v0_0 : (List TEntry)) (v0_1 : ByteArray) (v0_2 : Int) (v0_3 : Int) : L_P_slices_IndexFunc_impl_Entry__impl_FindEntry_s1_0 f0 n (m + 1) (S_slices_IndexFunc_impl_Entry__impl_FindEntry_s1_0 v0_0 v0_1 v0_2 v0_3) = slices_IndexFunc_impl_Entry__impl_FindEntry_s1_P_L0 f0 (fun r0 => some [⟨(.int .i64), r0⟩]) (fun v0_0 v0_1 v0_2 v0_3 => L_P_slices_IndexFunc_impl_Entry__impl_FindEntry_s1_0 f0 n m (S_slices_IndexFunc_impl_Entry__impl_FindEntry_s1_0 v0_0 v0_1 v0_2 v0_3)) v0_0 v0_1 v0_2 v0_3 := by kernel_rfl
theorem aP_slices_IndexFunc_impl_Entry__impl_FindEntry_s1 (f0 : TEntry → ByteArray → Bool) (n : Nat) (a0 : (List TEntry)) (c1_0 : ByteArray) : absF tab sigs (OP_slices_IndexFunc_impl_Entry__impl_FindEntry_s1 f0) A_slices_IndexFunc_impl_Entry__impl_FindEntry_s1 Tryz.f32 [((.int .i64), .no)] n [.val (.slice 27 TyEntry) a0, .clo 33 [.ref .str c1_0]] = slices_IndexFunc_impl_Entry__impl_FindEntry_s1_P f0 (fun r0 => some [⟨(.int .i64), r0⟩]) (fun v0_0 v0_1 v0_2 v0_3 => L_P_slices_IndexFunc_impl_Entry__impl_FindEntry_s1_0 f0 n n (S_slices_IndexFunc_impl_Entry__impl_FindEntry_s1_0 v0_0 v0_1 v0_2 v0_3)) a0 c1_0 := by kernel_rfl
theorem said_slices_IndexFunc_impl_Entry__impl_FindEntry_s1 (a0 : (List TEntry)) (c1_0 : ByteArray) : Said Tryz.prog sigs_32 32 [.val (.slice 27 TyEntry) a0, .clo 33 [.ref .str c1_0]] [⟨(.int .i64), N.slices_IndexFunc_impl_Entry__impl_FindEntry_s1 a0 c1_0⟩] := said_len (T := tab) (A := A_slices_IndexFunc_impl_Entry__impl_FindEntry_s1) tabOk ok_slices_IndexFunc_impl_Entry__impl_FindEntry_s1 tabOk.follows Tryz.func32 (by kernel_rfl) (by kernel_rfl) (fun hl => let ⟨n, hn⟩ := slices_IndexFunc_impl_Entry__impl_FindEntry_s1_ok (ρ := Ret) (fun r0 => some [⟨(.int .i64), r0⟩]) a0 c1_0 hl.1; ⟨n, (aP_slices_IndexFunc_impl_Entry__impl_FindEntry_s1 N.impl_FindEntry_s1 n a0 c1_0).trans (hn n (Nat.le_refl n) (fun  m v0_0 v0_1 v0_2 v0_3 => L_P_slices_IndexFunc_impl_Entry__impl_FindEntry_s1_0 N.impl_FindEntry_s1 n  m (S_slices_IndexFunc_impl_Entry__impl_FindEntry_s1_0 v0_0 v0_1 v0_2 v0_3)) (fun  m v0_0 v0_1 v0_2 v0_3 => bP_slices_IndexFunc_impl_Entry__impl_FindEntry_s1_0 N.impl_FindEntry_s1 n  m v0_0 v0_1 v0_2 v0_3))⟩)
abbrev N.impl_FindEntry (l : List TEntry) (s : ByteArray) : Int := findEntry l s
def impl_FindEntry {ρ : Type} (k : Int → Option ρ) (a0 : (List TEntry)) (a1 : ByteArray) : Option ρ := (k (N.slices_IndexFunc_impl_Entry__impl_FindEntry_s1 a0 a1))
theorem impl_FindEntry_ok {ρ : Type} (k : Int → Option ρ) (a0 : (List TEntry)) (a1 : ByteArray) (l_a0 : lnL (fun y => (True ∧ (True ∧ (True ∧ lnL (fun _ => True) y.2.2.2)))) a0) : impl_FindEntry k  a0 a1 = k (N.impl_FindEntry a0 a1) := by
  rfl
def OP_impl_FindEntry (f0 : (List TEntry) → ByteArray → Int) : Orac := (orcX 32 [.val (.slice 27 TyEntry), .clo 33 [.str]] (fun d => true) (fun d => [⟨(.int .i64), f0 d.1 d.2.1.1⟩]) nilO)
def O_impl_FindEntry : Orac := OP_impl_FindEntry N.slices_IndexFunc_impl_Entry__impl_FindEntry_s1
def impl_FindEntry_P {ρ : Type} (f0 : (List TEntry) → ByteArray → Int) (k : Int → Option ρ) (a0 : (List TEntry)) (a1 : ByteArray) : Option ρ := (k (f0 a0 a1))
theorem ok_impl_FindEntry : OracOk Tryz.prog sigs O_impl_FindEntry := (orcX_ok rfl rfl (fun d g => said_slices_IndexFunc_impl_Entry__impl_FindEntry_s1 d.1 d.2.1.1) nilO_ok)
def A_impl_FindEntry : Ann := fun b => ⟨[], []⟩
theorem aP_impl_FindEntry (f0 : (List TEntry) → ByteArray → Int) (n : Nat) (a0 : (List TEntry)) (a1 : ByteArray) : absF tab sigs (OP_impl_FindEntry f0) A_impl_FindEntry Tryz.f9 [((.int .i64), .no)] n [.val (.slice 27 TyEntry) a0, .val .str a1] = impl_FindEntry_P f0 (fun r0 => some [⟨(.int .i64), r0⟩])  a0 a1 := by kernel_rfl
theorem said_impl_FindEntry (a0 : (List TEntry)) (a1 : ByteArray) : Said Tryz.prog sigs_9 9 [.val (.slice 27 TyEntry) a0, .val .str a1] [⟨(.int .i64), N.impl_FindEntry a0 a1⟩] := said_len (T := tab) (A := A_impl_FindEntry) tabOk ok_impl_FindEntry tabOk.follows Tryz.func9 (by kernel_rfl) (by kernel_rfl) (fun hl => ⟨0, (aP_impl_FindEntry N.slices_IndexFunc_impl_Entry__impl_FindEntry_s1 0 a0 a1).trans (impl_FindEntry_ok (ρ := Ret) (fun r0 => some [⟨(.int .i64), r0⟩]) a0 a1 hl.1)⟩)
def G.slices_Delete_impl_Entry (l : List TEntry) (i j : Int) : Bool := decide (0 ≤ i) && (decide (i < (l.length : Int)) && decide (j = i + 1))
abbrev N.slices_Delete_impl_Entry (l : List TEntry) (i j : Int) : List TEntry := l.eraseIdx i.toNat
-- HAND
open Go.Shelf Go.Lib Go.Sort in
set_option maxHeartbeats 4000000 in
set_option maxRecDepth 1000000 in
theorem walk_36 (blk cap n i j : Nat) (hj : j = i + 1) (d : Array Value) (w : World) (hH : Go.Sort.Holds cellOf w blk 0 d) (hd : d.size = n * 4) (h1 : ∀ v ∈ d.toList, v.oneCell' = true) (hi : i < n) (hcap : n ≤ cap) (hm : cap ≤ 9223372036854775807) (hblk : blk < w.heap.size) :
   Calls Tryz.prog 36 #[.slice (some ⟨blk, 0, none⟩) n cap, .int .i64 i, .int .i64 j] w fun e w' => e = .returned (.slice (some ⟨blk, 0, none⟩) (n - 1) cap) ∧
    ∃ (q : Nat) (D : Array Value), w' = putRow cellOf (Sort.ahead w q) blk 0 D ∧ D.size = n * 4 ∧ D.toList.take ((n - 1) * 4) = d.toList.take (i * 4) ++ d.toList.drop (j * 4) := by
  obtain ⟨i0, hi0, hz1⟩ := Option.map_eq_some_iff.1 (show (Tryz.prog.info? 27).map (·.size) = some 4 by kernel_rfl)
  obtain ⟨news, hnews⟩ : ∃ news, news = d.toList.drop (j * 4) := ⟨_, rfl⟩
  have hlen : news.length = (n - j) * 4 := by rw [hnews, List.length_drop, Array.length_toList]; omega
  have hget : ∀ t u, news[t]? = some u → w.cell? ⟨blk, j * 4 + t, none⟩ = some u := by
    intro t u hu
    have ht : t < news.length := (List.getElem?_eq_some_iff.1 hu).1
    rw [hnews, List.getElem?_drop, Array.getElem?_toList] at hu
    have := (hH (j * 4 + t) (by omega)).1
    rw [Nat.zero_add] at this
    rw [this]
    obtain ⟨h, e⟩ := Array.getElem?_eq_some_iff.1 hu
    rw [getElem!_pos d _ h, e]
  obtain ⟨A, hA, hsrc⟩ : ∃ A : Addr, (if cap = j then some (⟨blk, 0, none⟩ : Addr) else some ⟨blk, j * 4, none⟩) = some A ∧ Hid (∀ t u, news[t]? = some u → w.drew.cell? (A.add t) = some u) := by
    by_cases h : cap = j
    · refine ⟨⟨blk, 0, none⟩, by simp [h], fun t u hu => ?_⟩
      have h0 : news.length = 0 := by rw [hlen]; omega
      rw [List.length_eq_zero_iff.1 h0] at hu
      simp at hu
    · refine ⟨⟨blk, j * 4, none⟩, by simp [h], fun t u hu => ?_⟩
      rw [Addr.add_lit]
      exact hget t u hu
  have s1 : Hid (news.length = (n - j) * 4) := hlen
  have s2 : Hid (∀ u ∈ news, u.oneCell' = true) := fun u hu => h1 u (by rw [hnews] at hu; exact List.mem_of_mem_drop hu)
  have s3 : Hid (∀ t, t < news.length → (w.drew.cell? ⟨blk, 0 + i * 4 + t, none⟩).isSome = true ∧ w.drew.frozen? ⟨blk, 0 + i * 4 + t, none⟩ = false) := by
    intro t ht
    rw [hlen] at ht
    rw [Nat.add_assoc]
    exact ⟨by show (w.cell? _).isSome = true; rw [(hH (i * 4 + t) (by omega)).1]; rfl, (hH (i * 4 + t) (by omega)).2⟩
  obtain ⟨W1, hW1⟩ : ∃ W1, W1 = w.drew.setCells blk (0 + i * 4) news := ⟨_, rfl⟩
  have hmap : ∀ l : List Value, l.map cellOf = l := fun l => List.map_id' l
  have hW1' : W1 = putRow cellOf (Sort.ahead w 1) blk 0 (lay d (i * 4) news) := by
    rw [hW1, ← putRow_setCells cellOf (Sort.ahead w 1) blk 0 _ d (i * 4) (by omega), putRow_self cellOf (Sort.ahead w 1) blk 0 d (holds_ahead cellOf w 1 blk 0 d hH), hmap]
    rfl
  have hH1 : Holds cellOf W1 blk 0 (lay d (i * 4) news) := by rw [hW1']; exact holds_putRow cellOf _ blk 0 d _ (holds_ahead cellOf w 1 blk 0 d hH) (lay_size _ _ _)
  obtain ⟨zs, hz, hzs, hzo⟩ : ∃ zs : Array Value, (∀ w, (zeroValue 27).run Tryz.prog w = .ok (.agg zs) w) ∧ zs.size = 4 ∧ ∀ v ∈ zs.toList, v.oneCell' = true := ⟨_, Tryz.zeroValue27, rfl, by decide⟩
  have mixed : Tryz.prog.follows .mixedOrders = true := by kernel_rfl
  have hcl : ∀ ty, (Builtin.clear_ #[24] ty #[.slice (some ⟨blk, (i + (n - j)) * 4, none⟩) (n - (i + (n - j))) (cap - (i + (n - j)))]).run Tryz.prog W1 = .ok (.tuple #[]) (W1.setCells blk ((i + (n - j)) * 4) zs.toList) := by
    intro ty
    have e1 : n - (i + (n - j)) = 1 := by omega
    rw [e1]
    exact run_clear_one W1 24 27 ty (.agg zs) Tryz.underlying24 hz hzo blk _ _ (fun t ht => by have := (hH1 ((i + (n - j)) * 4 + t) (by rw [lay_size]; have ht : t < zs.size := ht; omega)).1; rw [Nat.zero_add] at this; rw [this]; rfl) (fun t ht => by have := (hH1 ((i + (n - j)) * 4 + t) (by rw [lay_size]; have ht : t < zs.size := ht; omega)).2; rw [Nat.zero_add] at this; exact this)
  have X : Aside (W1 = putRow cellOf (Sort.ahead w 1) blk 0 (lay d (i * 4) news)) := hW1'
  have hW : Hid (W1 = w.drew.setCells blk (0 + i * 4) news) := hW1
  have hic : i ≤ cap := by omega
  have hjc : j ≤ cap := by omega
  have hjn : j ≤ n := by omega
  have hij : i ≤ j := by omega
  have hne : ¬ i = j := by omega
  have Y : Aside (news = d.toList.drop (j * 4) ∧ zs.size = 4 ∧ j = i + 1 ∧ d.size = n * 4 ∧ news.length = (n - j) * 4) := ⟨hnews, hzs, hj, hd, hlen⟩
  clear hW1 hW1' hH1 hH hget hnews hlen hz hzo h1 hj hd hzs
  go_enter Tryz.func36, Tryz.ntmps36
  go_wp2_with fail
  go_region_law_o (refine step_append_room rfl (.tmp 22) (.tmp 25) 24 rfl 27 i0 4 Tryz.underlying24 hi0 hz1 blk 0 i cap (by simp [Act.eval, Act.put]) A (n - j) (cap - j) news (by simp [Act.eval, Act.put, hA]) s1.out hsrc.out s2.out (by omega) s3.out ?_; rw [← hW.out])
  go_wp2
  go_ret
  obtain ⟨y1, y2, y3, y4, y5⟩ := Y.out
  have hfin : W1.setCells blk ((i + (n - j)) * 4) zs.toList = putRow cellOf (Sort.ahead w 1) blk 0 (lay (lay d (i * 4) news) ((i + (n - j)) * 4) zs.toList) := by
    have := putRow_setCells cellOf (Sort.ahead w 1) blk 0 zs.toList (lay d (i * 4) news) ((i + (n - j)) * 4) (by rw [lay_size, Array.length_toList]; omega)
    rw [hmap, Nat.zero_add] at this
    rw [X.out]
    exact this
  refine ⟨by rw [show n - 1 = i + (n - j) by omega]; rfl, 1, _, hfin, by rw [lay_size, lay_size]; exact y4, ?_⟩
  apply List.ext_getElem?
  intro t
  rw [List.getElem?_take]
  have hl1 : (d.toList.take (i * 4)).length = i * 4 := by rw [List.length_take, Array.length_toList]; omega
  by_cases ht : t < (n - 1) * 4
  · rw [if_pos ht, Array.getElem?_toList, lay_get? _ _ _ _ (by rw [lay_size, Array.length_toList]; omega), if_neg (by omega), lay_get? _ _ _ _ (by omega), List.getElem?_append, hl1]
    by_cases h : t < i * 4
    · rw [if_neg (by omega), if_pos h, List.getElem?_take, if_pos h, Array.getElem?_toList]
    · rw [if_pos (by omega), if_neg h, y1]
  · rw [if_neg ht, List.getElem?_eq_none]
    rw [List.length_append, hl1, List.length_drop, Array.length_toList]
    omega
theorem stands_36 : Stands Tryz.prog 36 := ⟨_, Tryz.func36, by kernel_rfl, by kernel_rfl⟩
theorem delC_36 : DelC Tryz.prog 36 4 := fun blk cap n i d w hH hd h1 hi hcap hm hblk => walk_36 blk cap n i (i + 1) rfl d w hH hd h1 hi hcap hm hblk
theorem said_slices_Delete_impl_Entry (a0 : List TEntry) (a1 a2 : Int) (g : G.slices_Delete_impl_Entry a0 a1 a2 = true) : SaidX Tryz.prog sigs_36 36 [.lend (.slice 27 TyEntry) a0 (.own 0), .val (.int .i64) a1, .val (.int .i64) a2] [⟨(.slice 27 TyEntry), N.slices_Delete_impl_Entry a0 a1 a2⟩] := by
  obtain ⟨g1, g2⟩ := (Bool.and_eq_true _ _).mp g
  obtain ⟨g2, g3⟩ := (Bool.and_eq_true _ _).mp g2
  have g1 := of_decide_eq_true g1
  have g2 := of_decide_eq_true g2
  have g3 := of_decide_eq_true g3
  obtain ⟨i, rfl⟩ : ∃ i : Nat, a1 = (i : Int) := ⟨a1.toNat, by omega⟩
  have e : a2 = ((i + 1 : Nat) : Int) := by omega
  subst e
  exact delete_said (t := TyEntry) (i := i) stands_36 delC_36 (by omega)

abbrev G.impl_DropEntry (l : List TEntry) (s : ByteArray) : Bool := decide (wEs l ≤ 1048576)
abbrev N.impl_DropEntry (l : List TEntry) (s : ByteArray) : List TEntry × Bool := dropE l s
def impl_DropEntry_P {ρ : Type} (f0 : (List TEntry) → (List TEntry)) (g0 : (List TEntry) → Bool) (f1 : (List TEntry) → ByteArray → Int) (f2 : (List TEntry) → Bool) (g2 : (List TEntry) → Bool) (f3 : (List TEntry) → Int → Int → (List TEntry)) (g3 : (List TEntry) → Int → Int → Bool) (k : (List TEntry) → Bool → Option ρ) (a0 : (List TEntry)) (a1 : ByteArray) : Option ρ := (cond (g0 a0) (cond (g2 a0) (cond (!(f2 a0)) (k (f0 a0) false) (cond (decide ((f1 a0 a1) < (0 : Int))) (k (f0 a0) false) (cond (g3 (f0 a0) (f1 a0 a1) (IntKind.wrap .i64 ((f1 a0 a1) + (1 : Int)))) (k (f3 (f0 a0) (f1 a0 a1) (IntKind.wrap .i64 ((f1 a0 a1) + (1 : Int)))) true) none))) none) none)
def impl_DropEntry {ρ : Type} (k : (List TEntry) → Bool → Option ρ) (a0 : (List TEntry)) (a1 : ByteArray) : Option ρ := impl_DropEntry_P N.impl_copyEntries G.impl_copyEntries N.impl_FindEntry N.impl_AreEntries G.impl_AreEntries N.slices_Delete_impl_Entry G.slices_Delete_impl_Entry k a0 a1
theorem impl_DropEntry_ok {ρ : Type} (k : (List TEntry) → Bool → Option ρ) (a0 : (List TEntry)) (a1 : ByteArray) (l_a0 : lnL (fun y => (True ∧ (True ∧ (True ∧ lnL (fun _ => True) y.2.2.2)))) a0) (g : G.impl_DropEntry a0 a1 = true) : impl_DropEntry k  a0 a1 = k (N.impl_DropEntry a0 a1).1 (N.impl_DropEntry a0 a1).2 := by
  unfold G.impl_DropEntry at g
  have hw : wEs a0 ≤ 1048576 := of_decide_eq_true g
  have hl := wEs_ge a0
  have gA : decide (wEs a0 ≤ 1048577) = true := decide_eq_true (by omega)
  simp only [impl_DropEntry, impl_DropEntry_P, G.impl_copyEntries, N.impl_copyEntries, G.impl_AreEntries, N.impl_AreEntries, N.impl_FindEntry, g, gA, cond_true]
  show _ = k (dropE a0 a1).1 (dropE a0 a1).2
  unfold dropE
  cases (!areEntries a0) with
  | true => rfl
  | false =>
    cases hf : decide (findEntry a0 a1 < 0) with
    | true => rfl
    | false =>
      obtain ⟨j, h1, h2⟩ := find_in hf
      rw [h2, wrap_succ (j := j) (by unfold big; omega)]
      have hg : G.slices_Delete_impl_Entry a0 (j : Int) ((j + 1 : Nat) : Int) = true := by
        unfold G.slices_Delete_impl_Entry
        rw [decide_eq_true (by omega), decide_eq_true (by omega), decide_eq_true (by omega)]
        rfl
      simp only [hg, cond_true, cond_false]
def OP_impl_DropEntry (f0 : (List TEntry) → (List TEntry)) (g0 : (List TEntry) → Bool) (f1 : (List TEntry) → ByteArray → Int) (f2 : (List TEntry) → Bool) (g2 : (List TEntry) → Bool) (f3 : (List TEntry) → Int → Int → (List TEntry)) (g3 : (List TEntry) → Int → Int → Bool) : Orac := (orcX 36 [.lend .bool (.own 0), .lend (.slice 27 TyEntry) (.own 0), .val (.int .i64), .val (.int .i64)] (fun d => g3 d.2.1 d.2.2.1 d.2.2.2.1) (fun d => [⟨(.slice 27 TyEntry), f3 d.2.1 d.2.2.1 d.2.2.2.1⟩]) (orcX 11 [.val (.slice 27 TyEntry)] (fun d => g2 d.1) (fun d => [⟨.bool, f2 d.1⟩]) (orcX 9 [.val (.slice 27 TyEntry), .val .str] (fun d => true) (fun d => [⟨(.int .i64), f1 d.1 d.2.1⟩]) (orcX 22 [.val (.slice 27 TyEntry)] (fun d => g0 d.1) (fun d => [⟨(.slice 27 TyEntry), f0 d.1⟩]) nilO))))
def O_impl_DropEntry : Orac := OP_impl_DropEntry N.impl_copyEntries G.impl_copyEntries N.impl_FindEntry N.impl_AreEntries G.impl_AreEntries N.slices_Delete_impl_Entry G.slices_Delete_impl_Entry
theorem ok_impl_DropEntry : OracOk Tryz.prog sigs O_impl_DropEntry := (orcV_ok rfl (fun d g => said_slices_Delete_impl_Entry d.2.1 d.2.2.1 d.2.2.2.1 g) (orcX_ok rfl rfl (fun d g => said_impl_AreEntries d.1 g) (orcX_ok rfl rfl (fun d g => said_impl_FindEntry d.1 d.2.1) (orcX_ok rfl rfl (fun d g => said_impl_copyEntries d.1 g) nilO_ok))))
def A_impl_DropEntry : Ann := fun b => ⟨[], []⟩
theorem aP_impl_DropEntry (f0 : (List TEntry) → (List TEntry)) (g0 : (List TEntry) → Bool) (f1 : (List TEntry) → ByteArray → Int) (f2 : (List TEntry) → Bool) (g2 : (List TEntry) → Bool) (f3 : (List TEntry) → Int → Int → (List TEntry)) (g3 : (List TEntry) → Int → Int → Bool) (n : Nat) (a0 : (List TEntry)) (a1 : ByteArray) : absF tab sigs (OP_impl_DropEntry f0 g0 f1 f2 g2 f3 g3) A_impl_DropEntry Tryz.f12 [((.slice 27 TyEntry), .no), (.bool, .no)] n [.val (.slice 27 TyEntry) a0, .val .str a1] = impl_DropEntry_P f0 g0 f1 f2 g2 f3 g3 (fun r0 r1 => some [⟨(.slice 27 TyEntry), r0⟩, ⟨.bool, r1⟩])  a0 a1 := by kernel_rfl
theorem said_impl_DropEntry (a0 : (List TEntry)) (a1 : ByteArray) (g : G.impl_DropEntry a0 a1 = true) : Said Tryz.prog sigs_12 12 [.val (.slice 27 TyEntry) a0, .val .str a1] [⟨(.slice 27 TyEntry), (N.impl_DropEntry a0 a1).1⟩, ⟨.bool, (N.impl_DropEntry a0 a1).2⟩] := said_len (T := tab) (A := A_impl_DropEntry) tabOk ok_impl_DropEntry tabOk.follows Tryz.func12 (by kernel_rfl) (by kernel_rfl) (fun hl => ⟨0, (aP_impl_DropEntry N.impl_copyEntries G.impl_copyEntries N.impl_FindEntry N.impl_AreEntries G.impl_AreEntries N.slices_Delete_impl_Entry G.slices_Delete_impl_Entry 0 a0 a1).trans (impl_DropEntry_ok (ρ := Ret) (fun r0 r1 => some [⟨(.slice 27 TyEntry), r0⟩, ⟨.bool, r1⟩]) a0 a1 hl.1 g)⟩)
abbrev G.spec_DrawFindEntry (l : List Int) : Bool := decide (l.length ≤ 1048576)
abbrev N.spec_DrawFindEntry (l : List Int) : List TEntry × ByteArray := findD l
def spec_DrawFindEntry {ρ : Type} (k : (List TEntry) → ByteArray → Option ρ) (a0 : (List Int)) : Option ρ := (cond (G.spec_l1New a0) (cond (G.spec_l9Any (N.spec_l1New a0)) (cond (G.spec_l4Any (N.spec_l9Any (N.spec_l1New a0)).1) (k (N.spec_l9Any (N.spec_l1New a0)).2 (N.spec_l4Any (N.spec_l9Any (N.spec_l1New a0)).1).2) none) none) none)
theorem spec_DrawFindEntry_ok {ρ : Type} (k : (List TEntry) → ByteArray → Option ρ) (a0 : (List Int)) (l_a0 : lnL (fun _ => True) a0) (g : G.spec_DrawFindEntry a0 = true) : spec_DrawFindEntry k  a0 = k (N.spec_DrawFindEntry a0).1 (N.spec_DrawFindEntry a0).2 := by
  unfold G.spec_DrawFindEntry at g
  have h0 := okC_new (of_decide_eq_true g)
  have h1 := okC_anyEs h0
  simp only [spec_DrawFindEntry, G.spec_l1New, N.spec_l1New, G.spec_l9Any, N.spec_l9Any, G.spec_l4Any, N.spec_l4Any, g, h0, h1, cond_true]
  rfl
def OP_spec_DrawFindEntry (f0 : (List Int) → TCur) (g0 : (List Int) → Bool) (f1 : TCur → (TCur × (List TEntry))) (g1 : TCur → Bool) (f2 : TCur → (TCur × ByteArray)) (g2 : TCur → Bool) : Orac := (orcX 50 [.lend (.pair (.slice 5 (.int .u8)) (.pair (.int .i64) (.int .i64))) .no] (fun d => g2 d.1) (fun d => [⟨(.pair (.slice 5 (.int .u8)) (.pair (.int .i64) (.int .i64))), (f2 d.1).1⟩, ⟨.str, (f2 d.1).2⟩]) (orcX 20 [.lend (.pair (.slice 5 (.int .u8)) (.pair (.int .i64) (.int .i64))) .no] (fun d => g1 d.1) (fun d => [⟨(.pair (.slice 5 (.int .u8)) (.pair (.int .i64) (.int .i64))), (f1 d.1).1⟩, ⟨(.slice 27 TyEntry), (f1 d.1).2⟩]) (orcX 19 [.lend .bool .nil, .val (.slice 5 (.int .u8))] (fun d => g0 d.2.1) (fun d => [⟨(.pair (.slice 5 (.int .u8)) (.pair (.int .i64) (.int .i64))), f0 d.2.1⟩]) nilO)))
def O_spec_DrawFindEntry : Orac := OP_spec_DrawFindEntry N.spec_l1New G.spec_l1New N.spec_l9Any G.spec_l9Any N.spec_l4Any G.spec_l4Any
def spec_DrawFindEntry_P {ρ : Type} (f0 : (List Int) → TCur) (g0 : (List Int) → Bool) (f1 : TCur → (TCur × (List TEntry))) (g1 : TCur → Bool) (f2 : TCur → (TCur × ByteArray)) (g2 : TCur → Bool) (k : (List TEntry) → ByteArray → Option ρ) (a0 : (List Int)) : Option ρ := (cond (g0 a0) (cond (g1 (f0 a0)) (cond (g2 (f1 (f0 a0)).1) (k (f1 (f0 a0)).2 (f2 (f1 (f0 a0)).1).2) none) none) none)
theorem ok_spec_DrawFindEntry : OracOk Tryz.prog sigs O_spec_DrawFindEntry := (orcB_ok rfl (fun d g => said_spec_l4Any d.1 g) (orcB_ok rfl (fun d g => said_spec_l9Any d.1 g) (orcN_ok rfl (fun d g => said_spec_l1New d.2.1 g) nilO_ok)))
def A_spec_DrawFindEntry : Ann := fun b => ⟨[], []⟩
theorem aP_spec_DrawFindEntry (f0 : (List Int) → TCur) (g0 : (List Int) → Bool) (f1 : TCur → (TCur × (List TEntry))) (g1 : TCur → Bool) (f2 : TCur → (TCur × ByteArray)) (g2 : TCur → Bool) (n : Nat) (a0 : (List Int)) : absF tab sigs (OP_spec_DrawFindEntry f0 g0 f1 g1 f2 g2) A_spec_DrawFindEntry Tryz.f37 [((.slice 27 TyEntry), (.own 0)), (.str, .no)] n [.val (.slice 5 (.int .u8)) a0] = spec_DrawFindEntry_P f0 g0 f1 g1 f2 g2 (fun r0 r1 => some [⟨(.slice 27 TyEntry), r0⟩, ⟨.str, r1⟩])  a0 := by kernel_rfl
theorem said_spec_DrawFindEntry (a0 : (List Int)) (g : G.spec_DrawFindEntry a0 = true) : Said Tryz.prog sigs_37 37 [.val (.slice 5 (.int .u8)) a0] [⟨(.slice 27 TyEntry), (N.spec_DrawFindEntry a0).1⟩, ⟨.str, (N.spec_DrawFindEntry a0).2⟩] := said_len (T := tab) (A := A_spec_DrawFindEntry) tabOk ok_spec_DrawFindEntry tabOk.follows Tryz.func37 (by kernel_rfl) (by kernel_rfl) (fun hl => ⟨0, (aP_spec_DrawFindEntry N.spec_l1New G.spec_l1New N.spec_l9Any G.spec_l9Any N.spec_l4Any G.spec_l4Any 0 a0).trans (spec_DrawFindEntry_ok (ρ := Ret) (fun r0 r1 => some [⟨(.slice 27 TyEntry), r0⟩, ⟨.str, r1⟩]) a0 hl.1 g)⟩)
abbrev G.spec_DrawAlikeIn (l : List Int) : Bool := decide (l.length ≤ 1048576)
abbrev N.spec_DrawAlikeIn (l : List Int) : List TEntry × ByteArray := findD l
def spec_DrawAlikeIn {ρ : Type} (k : (List TEntry) → ByteArray → Option ρ) (a0 : (List Int)) : Option ρ := (cond (G.spec_DrawFindEntry a0) (k (N.spec_DrawFindEntry a0).1 (N.spec_DrawFindEntry a0).2) none)
theorem spec_DrawAlikeIn_ok {ρ : Type} (k : (List TEntry) → ByteArray → Option ρ) (a0 : (List Int)) (l_a0 : lnL (fun _ => True) a0) (g : G.spec_DrawAlikeIn a0 = true) : spec_DrawAlikeIn k  a0 = k (N.spec_DrawAlikeIn a0).1 (N.spec_DrawAlikeIn a0).2 := by
  unfold G.spec_DrawAlikeIn at g
  simp only [spec_DrawAlikeIn, G.spec_DrawFindEntry, N.spec_DrawFindEntry, g, cond_true]
def OP_spec_DrawAlikeIn (f0 : (List Int) → ((List TEntry) × ByteArray)) (g0 : (List Int) → Bool) : Orac := (orcX 37 [.val (.slice 5 (.int .u8))] (fun d => g0 d.1) (fun d => [⟨(.slice 27 TyEntry), (f0 d.1).1⟩, ⟨.str, (f0 d.1).2⟩]) nilO)
def O_spec_DrawAlikeIn : Orac := OP_spec_DrawAlikeIn N.spec_DrawFindEntry G.spec_DrawFindEntry
def spec_DrawAlikeIn_P {ρ : Type} (f0 : (List Int) → ((List TEntry) × ByteArray)) (g0 : (List Int) → Bool) (k : (List TEntry) → ByteArray → Option ρ) (a0 : (List Int)) : Option ρ := (cond (g0 a0) (k (f0 a0).1 (f0 a0).2) none)
theorem ok_spec_DrawAlikeIn : OracOk Tryz.prog sigs O_spec_DrawAlikeIn := (orcX_ok rfl rfl (fun d g => said_spec_DrawFindEntry d.1 g) nilO_ok)
def A_spec_DrawAlikeIn : Ann := fun b => ⟨[], []⟩
theorem aP_spec_DrawAlikeIn (f0 : (List Int) → ((List TEntry) × ByteArray)) (g0 : (List Int) → Bool) (n : Nat) (a0 : (List Int)) : absF tab sigs (OP_spec_DrawAlikeIn f0 g0) A_spec_DrawAlikeIn Tryz.f13 [((.slice 27 TyEntry), (.own 0)), (.str, .no)] n [.val (.slice 5 (.int .u8)) a0] = spec_DrawAlikeIn_P f0 g0 (fun r0 r1 => some [⟨(.slice 27 TyEntry), r0⟩, ⟨.str, r1⟩])  a0 := by kernel_rfl
theorem said_spec_DrawAlikeIn (a0 : (List Int)) (g : G.spec_DrawAlikeIn a0 = true) : Said Tryz.prog sigs_13 13 [.val (.slice 5 (.int .u8)) a0] [⟨(.slice 27 TyEntry), (N.spec_DrawAlikeIn a0).1⟩, ⟨.str, (N.spec_DrawAlikeIn a0).2⟩] := said_len (T := tab) (A := A_spec_DrawAlikeIn) tabOk ok_spec_DrawAlikeIn tabOk.follows Tryz.func13 (by kernel_rfl) (by kernel_rfl) (fun hl => ⟨0, (aP_spec_DrawAlikeIn N.spec_DrawFindEntry G.spec_DrawFindEntry 0 a0).trans (spec_DrawAlikeIn_ok (ρ := Ret) (fun r0 r1 => some [⟨(.slice 27 TyEntry), r0⟩, ⟨.str, r1⟩]) a0 hl.1 g)⟩)
abbrev G.impl_PlainOf (s : ByteArray) : Bool := decide (s.size ≤ 8)
abbrev N.impl_PlainOf (s : ByteArray) : ByteArray := plainOf s
-- HAND
namespace Rpl
open Go.Lib Go.Proofs Go.Proofs.YtcmjbplnjjdcdaaGreat
abbrev muLinkT : Go.Conc.Locks.MuLink := { lock := 86, unlock := 87, ilock := 91, iunlock := 92, lockSlow := 101, unlockSlow := 104, disable := 97, enable := 99, acquire := 100, relMerge := 102, cas32 := 98, add32 := 103, tMutex := 91, tIMutex := 89, tPMutex := 119, tPIMutex := 133, tPI32 := 135, tUP := 137, tNoCopy := 83, tU32 := 85 }
theorem muLibT : Go.Conc.Locks.MuLib Tryz.prog muLinkT :=
  ⟨Tryz.func86, Tryz.func87, Tryz.func91, Tryz.func92, Tryz.func97, Tryz.func99, Tryz.func100, Tryz.func102, Tryz.func98, Tryz.func103, Tryz.underlying89, Tryz.runUnderlying89, Tryz.sizeOf89, Tryz.isAgg89, Tryz.zeroValue89, Tryz.underlying91, Tryz.runUnderlying91, Tryz.sizeOf91, Tryz.isAgg91, Tryz.zeroValue91, Tryz.underlying119, Tryz.runUnderlying119, Tryz.sizeOf119, Tryz.isAgg119, Tryz.zeroValue119, Tryz.underlying133, Tryz.runUnderlying133, Tryz.sizeOf133, Tryz.isAgg133, Tryz.zeroValue133, Tryz.underlying135, Tryz.runUnderlying135, Tryz.sizeOf135, Tryz.isAgg135, Tryz.zeroValue135, Tryz.underlying137, Tryz.runUnderlying137, Tryz.sizeOf137, Tryz.isAgg137, Tryz.zeroValue137, Tryz.underlying83, Tryz.runUnderlying83, Tryz.sizeOf83, Tryz.isAgg83, Tryz.zeroValue83, Tryz.underlying21, Tryz.runUnderlying21, Tryz.sizeOf21, Tryz.isAgg21, Tryz.zeroValue21, (by kernel_rfl)⟩
set_option maxHeartbeats 1000000 in
theorem load66 (a : Addr) (x : Int) (w : World) (hc : w.cell? a = some (.int .u32 x)) (hw : x = 0 ∨ x = 1) : Calls Tryz.prog 82 #[.pointer (some a)] w fun e w' => e = .returned (.bool (decide (x = 1))) ∧ w' = w := by
  have h69 : (callFunc 85 #[.pointer (some a)]).run Tryz.prog w = .ok (.value (.int .u32 x)) w := run_call_load Tryz.func85 (by kernel_rfl) (by kernel_rfl) (by kernel_rfl) .u32 (by kernel_rfl) hc
  go_enter Tryz.func82, Tryz.ntmps82
  go_wp2_with (simp only [h69])
  go_ret
  rcases hw with rfl | rfl <;> exact ⟨rfl, rfl⟩
set_option maxHeartbeats 1000000 in
theorem b32_78 (w : World) : Calls Tryz.prog 94 #[.bool true] w fun e w' => e = .returned (.int .u32 1) ∧ w' = w := by
  go_enter Tryz.func94, Tryz.ntmps94
  go_wp2
  go_ret
  exact ⟨rfl, rfl⟩
set_option maxHeartbeats 1000000 in
theorem store72 (a : Addr) (u : Value) (uf : FrameMode) (w : World) (hc : w.cell? a = some u) (hz : w.frozen? a = false) : CallsD Tryz.prog 88 #[.pointer (some a), .bool true] uf w fun e u' w' => u' = uf ∧ (e = .returned (.tuple #[]) ∧ w' = w.drew.setCell a (.int .u32 1)) := by
  have mixed : Tryz.prog.follows .mixedOrders = true := by kernel_rfl
  have h77 : (callFunc 93 #[.pointer (some a), .int .u32 1]).run Tryz.prog w.drew = .ok (.value (.tuple #[])) (w.drew.setCell a (.int .u32 1)) := run_call_store Tryz.func93 (by kernel_rfl) (by kernel_rfl) (by kernel_rfl) (by kernel_rfl) hc hz
  have h78 := b32_78 w.drew
  go_enter_d Tryz.func88, Tryz.ntmps88
  go_wp2_with fail
  go_region_calls
  go_end0
  exact ⟨rfl, rfl⟩
set_option maxHeartbeats 4000000 in
set_option maxRecDepth 100000 in
theorem new57 (b0 : Nat) (w : World) (ss : List Value) (hl : ss.length = 8) (h1 : ∀ v ∈ ss, v.oneCell' = true) (hc : ∀ j v, ss[j]? = some v → w.cell? ⟨b0, j, none⟩ = some v) :
    Calls Tryz.prog 60 #[.slice (some ⟨b0, 0, none⟩) 8 8] w fun e w' => ∃ G, e = .returned (.pointer (some ⟨w.heap.size + 1, 0, none⟩)) ∧ G ≤ 9223372036854775807 ∧ 8 ≤ G ∧
      w' = (w.drew.alloc (.cells (ss.toArray ++ Builtin.zeroCells (Value.string ⟨#[]⟩).cells (G - 8)) 9)).alloc (.cells #[.int .u32 0, .int .i32 0, .int .u32 0, .nilIface, .slice (some ⟨w.heap.size, 0, none⟩) 8 G] 97) := by
  obtain ⟨i0, hi0, hzz⟩ := Option.map_eq_some_iff.1 (show (Tryz.prog.info? 9).map (fun i => (i.zero, i.size, i.bytes)) = some (some (.string ⟨#[]⟩), 1, 16) by kernel_rfl)
  simp only [Prod.mk.injEq] at hzz
  obtain ⟨hz0, hzs, hzb⟩ := hzz
  have hsrc : Src Tryz.prog i0.size 25 (.slice (some ⟨b0, 0, none⟩) 8 8) 8 ss w := by
    rw [hzs]
    exact Src.ofSlice w Tryz.underlying25 ⟨b0, 0, none⟩ 8 8 ss (by omega) (fun j u hj => by rw [Addr.add_lit, Nat.zero_add]; exact hc j u hj) h1
  have hold : (Builtin.firstCells i0.size 0 (.slice none 0 0)).run Tryz.prog w.drew = .ok (#[] : Array Value) w.drew := by
    rw [hzs]
    exact run_firstCells_none w.drew 1 0 0 0
  have hrun : ∀ ty, (Builtin.append_ #[25, 25] ty #[.slice none 0 0, .slice (some ⟨b0, 0, none⟩) 8 8]).run Tryz.prog w = _ := fun ty =>
    run_append_grow_src w 25 25 ty 9 i0 _ Tryz.underlying25 hi0 hz0 none 0 0 [] hold _ 8 ss hsrc (by omega) (by omega) (by rw [hzb]; exact growslice_fits (by omega) (by omega))
  have hGn : 0 + 8 ≤ grownCap w (0 + 8) 0 9 := grownCap_ge w _ _ _
  have hG63 : grownCap w (0 + 8) 0 9 ≤ maxLen := grownCap_le_maxLen w (0 + 8) 0 9 (by unfold maxLen; omega)
  obtain ⟨G, hG⟩ : ∃ G, G = grownCap w (0 + 8) 0 9 := ⟨_, rfl⟩
  rw [← hG] at hrun hGn hG63
  have hG64 : G ≤ 9223372036854775807 := by unfold maxLen at hG63; omega
  obtain ⟨ROW, hROW⟩ : ∃ ROW : Array Value, ROW = ([] ++ ss).toArray ++ Builtin.zeroCells (Value.string ⟨#[]⟩).cells (G - (0 + 8)) := ⟨_, rfl⟩
  rw [← hROW] at hrun
  have key : Calls Tryz.prog 60 #[.slice (some ⟨b0, 0, none⟩) 8 8] w fun e w' => e = .returned (.pointer (some ⟨w.heap.size + 1, 0, none⟩)) ∧ w' = (w.drew.alloc (.cells ROW 9)).alloc (.cells #[.int .u32 0, .int .i32 0, .int .u32 0, .nilIface, .slice (some ⟨w.heap.size, 0, none⟩) 8 G] 97) := by
    clear hc h1 hsrc hold hROW hG
    go_enter Tryz.func60, Tryz.ntmps60
    go_wp2_with (at_builtin; refine Lib.wpList_append_run _ rfl _ _ _ _ rfl _ _ rfl rfl _ _ (hrun _) ?_)
    go_ret
    exact ⟨by simp [World.alloc, World.drew], rfl⟩
  exact key.mono fun e w' h => ⟨G, h.1, hG64, by omega, by rw [h.2, hROW]; rfl⟩

set_option maxHeartbeats 4000000 in
set_option maxRecDepth 1000000 in
theorem build68 (R A G : Nat) (w : World) (hA : A < w.heap.size) (hG : 8 ≤ G) (hr : w.cell? ⟨R, 4, none⟩ = some (.slice (some ⟨A, 0, none⟩) 8 G))
    (c0 : w.cell? ⟨A, 0, none⟩ = some (.string ⟨#[48]⟩)) (c1 : w.cell? ⟨A, 1, none⟩ = some (.string ⟨#[111]⟩)) (c2 : w.cell? ⟨A, 2, none⟩ = some (.string ⟨#[49]⟩)) (c3 : w.cell? ⟨A, 3, none⟩ = some (.string ⟨#[108]⟩))
    (c4 : w.cell? ⟨A, 4, none⟩ = some (.string ⟨#[53]⟩)) (c5 : w.cell? ⟨A, 5, none⟩ = some (.string ⟨#[115]⟩)) (c6 : w.cell? ⟨A, 6, none⟩ = some (.string ⟨#[45]⟩)) (c7 : w.cell? ⟨A, 7, none⟩ = some (.string ⟨#[]⟩)) :
    Calls Tryz.prog 84 #[.pointer (some ⟨R, 0, none⟩)] w fun e w' => e = .returned (.iface 118 (.pointer (some ⟨w.heap.size + 1, 0, none⟩))) ∧ BInv w A w.heap.size (w.heap.size + 1) 0 w' := by
  obtain ⟨i9, hi9, hzz⟩ := Option.map_eq_some_iff.1 (show (Tryz.prog.info? 9).map (fun i => (i.zero, i.size, i.bytes)) = some (some (.string ⟨#[]⟩), 1, 16) by kernel_rfl)
  simp only [Prod.mk.injEq] at hzz
  obtain ⟨hz0, hzs, hzb⟩ := hzz
  have hmk0 := run_makeSlice (P := Tryz.prog) (w := w) 25 9 i9 _ Tryz.underlying25 hi9 hz0 .i64 .i64 0 4 (by omega) (by omega) (by rw [hzs]; decide) (by rw [hzb]; decide) (by omega)
  obtain ⟨W1, hW1⟩ : ∃ W1, W1 = w.alloc (.cells (madeCells (Value.string ⟨#[]⟩).cells ((4 : Int).toNat * i9.size)) 9) := ⟨_, rfl⟩
  have hmk : (Instr.makeSlice 25 (.int .i64 0) (.int .i64 4)).run Tryz.prog w = .ok (.slice (some ⟨w.heap.size, 0, none⟩) 0 4) W1 := by rw [hW1]; exact hmk0
  have old : ∀ b j v, w.cell? ⟨b, j, none⟩ = some v → W1.cell? ⟨b, j, none⟩ = some v := fun b j v h => by rw [hW1, World.cell?_alloc_past _ b j (block_lt_of_cell h)]; exact h
  have X : Aside (W1 = w.alloc (.cells (madeCells (Value.string ⟨#[]⟩).cells ((4 : Int).toNat * i9.size)) 9)) := hW1
  clear hmk0 hW1
  -- the struct of 257 cells
  obtain ⟨Z, hZ⟩ : ∃ Z : List Value, Z = Tryz.zeroCells117.toList.set 256 (.slice (some ⟨w.heap.size, 0, none⟩) 0 4) := ⟨_, rfl⟩
  have hZs : Tryz.zeroCells117.size = 257 := by kernel_rfl
  have hZl : Z.length = 257 := by rw [hZ, List.length_set, Array.length_toList, hZs]
  have hZ1 : ∀ v ∈ Z, v.oneCell' = true := by
    intro v hv
    rw [hZ] at hv
    rcases List.mem_or_eq_of_mem_set hv with h | h
    · exact (List.all_eq_true.1 (show Tryz.zeroCells117.toList.all (fun v => v.oneCell') = true by kernel_rfl)) v h
    · rw [h]; rfl
  have hcell : ∀ j, j < 257 → ((W1.alloc (.cells Tryz.zeroCells117 117)).cell? ⟨W1.heap.size, j, none⟩).isSome = true := by
    intro j hj
    rw [World.cell?_alloc_at (w := W1) Tryz.zeroCells117 _ W1.heap.size j rfl, Array.getElem?_eq_getElem (by omega)]; rfl
  have hfro : ∀ j, (W1.alloc (.cells Tryz.zeroCells117 117)).frozen? ⟨W1.heap.size, j, none⟩ = false := by
    intro j
    exact World.frozen?_alloc_at (w := W1) Tryz.zeroCells117 _ W1.heap.size j rfl
  have hst := run_storeCells_cells (P := Tryz.prog) W1.heap.size 0 Z 0 (W1.alloc (.cells Tryz.zeroCells117 117)) (fun j hj => by rw [Nat.add_zero, Nat.zero_add]; exact hcell j (by omega)) (fun j hj => hfro _) hZ1
  rw [hZ] at hst
  obtain ⟨W2, hW2⟩ : ∃ W2, W2 = (W1.alloc (.cells Tryz.zeroCells117 117)).setCells W1.heap.size (0 + 0) (Tryz.zeroCells117.toList.set 256 (.slice (some ⟨w.heap.size, 0, none⟩) 0 4)) := ⟨_, rfl⟩
  rw [← hW2] at hst
  have X2 : Aside (W2 = (W1.alloc (.cells Tryz.zeroCells117 117)).setCells W1.heap.size (0 + 0) (Tryz.zeroCells117.toList.set 256 (.slice (some ⟨w.heap.size, 0, none⟩) 0 4))) := hW2
  have at2 : ∀ j u, Z[j]? = some u → W2.cell? ⟨W1.heap.size, j, none⟩ = some u := by
    intro j u hj
    have hjl : j < Z.length := (List.getElem?_eq_some_iff.1 hj).1
    rw [hW2, ← hZ]
    have := World.cell?_setCells_in W1.heap.size Z (0 + 0) (W1.alloc (.cells Tryz.zeroCells117 117)) (fun t ht => by rw [Nat.add_zero, Nat.zero_add]; exact hcell t (by omega)) j hjl
    rw [Nat.add_zero, Nat.zero_add] at this
    rw [this, ← hj, List.getElem?_eq_getElem hjl]
  have fro2 : ∀ j, W2.frozen? ⟨W1.heap.size, j, none⟩ = false := by
    intro j
    rw [hW2, World.frozen?_setCells]
    exact hfro j
  have tb : ∀ j, j < 256 → W2.cell? ⟨W1.heap.size, j, none⟩ = some (.slice none 0 0) := by
    intro j hj
    refine at2 j _ ?_
    rw [hZ, List.getElem?_set_ne (by omega)]
    have hall : ∀ j, j < 256 → Tryz.zeroCells117.toList[j]? = some (.slice none 0 0) := by
      have h0 : (List.range 256).all (fun j => match Tryz.zeroCells117.toList[j]? with | some (.slice none 0 0) => true | _ => false) = true := by kernel_rfl
      intro j hj
      have := List.all_eq_true.1 h0 j (List.mem_range.2 hj)
      split at this
      · assumption
      · cases this
    exact hall j hj
  have t256 : W2.cell? ⟨W1.heap.size, 256, none⟩ = some (.slice (some ⟨w.heap.size, 0, none⟩) 0 4) := by
    refine at2 256 _ ?_
    rw [hZ, List.getElem?_set_self (by rw [Array.length_toList, hZs]; omega)]
  have hT : W1.heap.size = w.heap.size + 1 := by rw [X.out, World.size_alloc]
  have szA : (W1.alloc (.cells Tryz.zeroCells117 117)).heap.size = w.heap.size + 2 := by rw [World.size_alloc, hT]
  have far2 : ∀ b j, b < W1.heap.size → W2.cell? ⟨b, j, none⟩ = W1.cell? ⟨b, j, none⟩ := fun b j hb => by
    rw [hW2, World.cell?_setCells_out _ _ _ _ _ (fun e => by have e : b = W1.heap.size := e; omega), World.cell?_alloc_past _ _ _ hb]
  have hmc : (madeCells (Value.string ⟨#[]⟩).cells ((4 : Int).toNat * i9.size)).size = 4 := by
    rw [hzs]; simp [madeCells, Builtin.zeroCells]
  have BI : BInv w A w.heap.size W1.heap.size 4 W2 := by
    have cc : ∀ j v, w.cell? ⟨A, j, none⟩ = some v → W2.cell? ⟨A, j, none⟩ = some v := fun j v h => by
      rw [far2 A j (by omega)]; exact old A j v h
    refine ⟨Nat.le_refl _, ?_, ?_, cc _ _ c0, cc _ _ c1, cc _ _ c2, cc _ _ c3, cc _ _ c4, cc _ _ c5, cc _ _ c6, cc _ _ c7, t256, ?_, ?_, fro2, fun j hj _ => tb j hj, fun i h1 h2 => by omega⟩
    · rw [hW2]
      refine below_put (Below.alloc ?_ (by omega) _) (by omega) _ _
      rw [X.out]
      exact Below.alloc (Below.refl _ _) (Nat.le_refl _) _
    · rw [hW2, size_put, World.size_alloc]; omega
    · intro j hj
      rw [far2 _ j (by omega), X.out, World.cell?_alloc_new, Array.getElem?_eq_getElem (by omega)]; rfl
    · intro j
      rw [hW2, World.frozen?_setCells, World.frozen?_alloc_past _ _ _ (by omega), X.out, World.frozen?_alloc_new]
  clear hW2 hZ hZl hZ1 hcell hfro at2 szA far2 hmc hT
  go_enter Tryz.func84, Tryz.ntmps84
  go_wp2
  go_rounds 5
  clear c0 c1 c2 c3 c4 c5 c6 c7 hmk tb t256 fro2 hst hr hz0 hzb old
  go_loopg [12] 4 (fun k p wr => p = .int .i64 (2 * (k : Int) - 2) ∧ BInv w A w.heap.size W1.heap.size k wr)
  case atStart => exact ⟨rfl, BI⟩
  case round =>
    obtain ⟨hp, hb⟩ := hrel
    have h4 := hb.k4
    have hW1 : W1.heap.size = w.heap.size + 1 := by
      rw [X.out, World.size_alloc]
    obtain hk | hk | hk | hk | hk : gk = 4 ∨ gk = 3 ∨ gk = 2 ∨ gk = 1 ∨ gk = 0 := by omega
    all_goals subst hk
    -- ROUNDS
    · replace hp : u12 = .int .i64 6 := hp
      subst hp
      have ci := hb.cA6
      have cj := hb.cA7
      have h256 : wr.cell? ⟨W1.heap.size, 256, none⟩ = some (.slice (some ⟨w.heap.size, 0, none⟩) 0 4) := hb.t256
      have htd := hb.todo 45 (by omega) (by decide)
      have hbig := hb.big
      have e0 : ∀ h, ((⟨#[45]⟩ : ByteArray)[0]'h).toNat = 45 := fun _ => rfl
      have hn := Lib.run_eql_slice_nil (P := Tryz.prog) wr 22 5 none 0 0 0 0 Tryz.underlying22
      have hcv : (convert 22 9 (.slice (some ⟨wr.heap.size, 0, none⟩) 1 1)).run Tryz.prog (wr.alloc (.cells #[.int .u8 45] 5)) = .ok (.string ⟨#[45]⟩) (wr.alloc (.cells #[.int .u8 45] 5)) := conv1 wr 22 9 5 45 Tryz.underlying22 (by kernel_rfl) (by kernel_rfl)
      obtain ⟨Wc, hWc⟩ : ∃ Wc, Wc = ((wr.alloc (.cells #[.int .u8 45] 5)).alloc (.cells #[.string ⟨#[45]⟩] 9)).setCells w.heap.size (0 + (4 - (3 + 1))) [.string ⟨#[45]⟩] := ⟨_, rfl⟩
      have hap : ∀ ty, (Builtin.append_ #[25, 25] ty #[.slice (some ⟨w.heap.size, 0, none⟩) 0 4, .slice (some ⟨wr.heap.size + 1, 0, none⟩) 1 1]).run Tryz.prog ((wr.alloc (.cells #[.int .u8 45] 5)).alloc (.cells #[.string ⟨#[45]⟩] 9)) = .ok (.slice (some ⟨w.heap.size, 0, none⟩) 1 4) Wc := fun ty => by
        rw [hWc]
        exact app1 (k := 3) hb rfl hW1 25 9 i9 Tryz.underlying25 hi9 hzs (.cells #[.int .u8 45] 5) ⟨#[45]⟩ ty
      obtain ⟨Wd, hWd⟩ : ∃ Wd, Wd = Wc.setCell ⟨W1.heap.size, 256, none⟩ (.slice (some ⟨w.heap.size, 0, none⟩) (4 - 3) 4) := ⟨_, rfl⟩
      have hbs := run_bytes_of_string (P := Tryz.prog) Wd 9 22 5 ⟨#[]⟩ (by kernel_rfl) Tryz.underlying22 (by kernel_rfl)
      obtain ⟨cap, hcap⟩ : ∃ cap, cap = grownCap Wd (ByteArray.size ⟨#[]⟩) 0 5 := ⟨_, rfl⟩
      rw [← hcap] at hbs
      obtain ⟨We, hWe⟩ : ∃ We, We = Wd.drew.alloc (.cells (bytesRow ⟨#[]⟩ cap) 5 ((bytesRow ⟨#[]⟩ cap).size, (bytesRow ⟨#[]⟩ cap).size + 1)) := ⟨_, rfl⟩
      rw [← hWe] at hbs
      replace hbs : (convert 9 22 (.string ⟨#[]⟩)).run Tryz.prog Wd = .ok (.slice (some ⟨Wd.heap.size, 0, none⟩) 0 cap) We := hbs
      have hnx := BInv.next (k := 3) (cap := cap) hb hA rfl hW1 hWc hWd hWe (row_bytes [] cap)
      have szc : Wc.heap.size = wr.heap.size + 2 := by rw [hWc, size_put, World.size_alloc, World.size_alloc]
      have q1 : Wc.cell? ⟨W1.heap.size, 256, none⟩ = some (.slice (some ⟨w.heap.size, 0, none⟩) 0 4) := by
        rw [hWc, World.cell?_setCells_out _ _ _ _ _ (fun e => by have e : W1.heap.size = w.heap.size := e; omega), World.cell?_alloc_past _ _ _ (by rw [World.size_alloc]; exact Nat.lt_succ_of_lt hbig), World.cell?_alloc_past _ _ _ hbig]
        exact h256
      have q2 : Wc.frozen? ⟨W1.heap.size, 256, none⟩ = false := by
        rw [hWc, World.frozen?_setCells, World.frozen?_alloc_past _ _ _ (by rw [World.size_alloc]; exact Nat.lt_succ_of_lt hbig), World.frozen?_alloc_past _ _ _ hbig]
        exact hb.froT _
      have szd : Wd.heap.size = wr.heap.size + 2 := by rw [hWd, World.size_setCell, szc]
      have q3 : We.cell? ⟨W1.heap.size, 45, none⟩ = some (.slice none 0 0) := by
        rw [hWe, World.cell?_alloc_past _ _ _ (by rw [World.size_drew, szd]; omega), World.cell?_drew, hWd, sc_ne (by omega), hWc, World.cell?_setCells_out _ _ _ _ _ (fun e => by have e : W1.heap.size = w.heap.size := e; omega), World.cell?_alloc_past _ _ _ (by rw [World.size_alloc]; exact Nat.lt_succ_of_lt hbig), World.cell?_alloc_past _ _ _ hbig]
        exact htd
      have q4 : We.frozen? ⟨W1.heap.size, 45, none⟩ = false := by
        rw [hWe, World.frozen?_alloc_past _ _ _ (by rw [World.size_drew, szd]; omega), World.frozen?_drew, hWd, World.frozen?_setCell]
        rw [hWc, World.frozen?_setCells, World.frozen?_alloc_past _ _ _ (by rw [World.size_alloc]; exact Nat.lt_succ_of_lt hbig), World.frozen?_alloc_past _ _ _ hbig]
        exact hb.froT _
      have hWd2 : Wc.setCell ⟨W1.heap.size, 256, none⟩ (.slice (some ⟨w.heap.size, 0, none⟩) 1 4) = Wd := hWd.symm
      have HN : Aside (BInv w A w.heap.size W1.heap.size 3 (We.setCell ⟨W1.heap.size, 45, none⟩ (.slice (some ⟨Wd.heap.size, 0, none⟩) 0 cap))) := hnx
      clear hnx hb hWc hWd hWe hcap hzs hi9 hW1 h4 szc szd hA
      go_wp2_with (at_builtin; refine Lib.wpList_append_run _ rfl _ _ _ _ rfl _ _ rfl rfl _ _ (hap _) ?_)
      go_roundg 3
      case measure => omega
      case rel => exact ⟨rfl, HN.out⟩
    · replace hp : u12 = .int .i64 4 := hp
      subst hp
      have ci := hb.cA4
      have cj := hb.cA5
      have h256 : wr.cell? ⟨W1.heap.size, 256, none⟩ = some (.slice (some ⟨w.heap.size, 0, none⟩) 1 4) := hb.t256
      have htd := hb.todo 53 (by omega) (by decide)
      have hbig := hb.big
      have e0 : ∀ h, ((⟨#[53]⟩ : ByteArray)[0]'h).toNat = 53 := fun _ => rfl
      have hn := Lib.run_eql_slice_nil (P := Tryz.prog) wr 22 5 none 0 0 0 0 Tryz.underlying22
      have hcv : (convert 22 9 (.slice (some ⟨wr.heap.size, 0, none⟩) 1 1)).run Tryz.prog (wr.alloc (.cells #[.int .u8 53] 5)) = .ok (.string ⟨#[53]⟩) (wr.alloc (.cells #[.int .u8 53] 5)) := conv1 wr 22 9 5 53 Tryz.underlying22 (by kernel_rfl) (by kernel_rfl)
      obtain ⟨Wc, hWc⟩ : ∃ Wc, Wc = ((wr.alloc (.cells #[.int .u8 53] 5)).alloc (.cells #[.string ⟨#[53]⟩] 9)).setCells w.heap.size (0 + (4 - (2 + 1))) [.string ⟨#[53]⟩] := ⟨_, rfl⟩
      have hap : ∀ ty, (Builtin.append_ #[25, 25] ty #[.slice (some ⟨w.heap.size, 0, none⟩) 1 4, .slice (some ⟨wr.heap.size + 1, 0, none⟩) 1 1]).run Tryz.prog ((wr.alloc (.cells #[.int .u8 53] 5)).alloc (.cells #[.string ⟨#[53]⟩] 9)) = .ok (.slice (some ⟨w.heap.size, 0, none⟩) 2 4) Wc := fun ty => by
        rw [hWc]
        exact app1 (k := 2) hb rfl hW1 25 9 i9 Tryz.underlying25 hi9 hzs (.cells #[.int .u8 53] 5) ⟨#[53]⟩ ty
      obtain ⟨Wd, hWd⟩ : ∃ Wd, Wd = Wc.setCell ⟨W1.heap.size, 256, none⟩ (.slice (some ⟨w.heap.size, 0, none⟩) (4 - 2) 4) := ⟨_, rfl⟩
      have hbs := run_bytes_of_string (P := Tryz.prog) Wd 9 22 5 ⟨#[115]⟩ (by kernel_rfl) Tryz.underlying22 (by kernel_rfl)
      obtain ⟨cap, hcap⟩ : ∃ cap, cap = grownCap Wd (ByteArray.size ⟨#[115]⟩) 0 5 := ⟨_, rfl⟩
      rw [← hcap] at hbs
      obtain ⟨We, hWe⟩ : ∃ We, We = Wd.drew.alloc (.cells (bytesRow ⟨#[115]⟩ cap) 5 ((bytesRow ⟨#[115]⟩ cap).size, (bytesRow ⟨#[115]⟩ cap).size + 1)) := ⟨_, rfl⟩
      rw [← hWe] at hbs
      replace hbs : (convert 9 22 (.string ⟨#[115]⟩)).run Tryz.prog Wd = .ok (.slice (some ⟨Wd.heap.size, 0, none⟩) 1 cap) We := hbs
      have hnx := BInv.next (k := 2) (cap := cap) hb hA rfl hW1 hWc hWd hWe (row_bytes [115] cap)
      have szc : Wc.heap.size = wr.heap.size + 2 := by rw [hWc, size_put, World.size_alloc, World.size_alloc]
      have q1 : Wc.cell? ⟨W1.heap.size, 256, none⟩ = some (.slice (some ⟨w.heap.size, 0, none⟩) 1 4) := by
        rw [hWc, World.cell?_setCells_out _ _ _ _ _ (fun e => by have e : W1.heap.size = w.heap.size := e; omega), World.cell?_alloc_past _ _ _ (by rw [World.size_alloc]; exact Nat.lt_succ_of_lt hbig), World.cell?_alloc_past _ _ _ hbig]
        exact h256
      have q2 : Wc.frozen? ⟨W1.heap.size, 256, none⟩ = false := by
        rw [hWc, World.frozen?_setCells, World.frozen?_alloc_past _ _ _ (by rw [World.size_alloc]; exact Nat.lt_succ_of_lt hbig), World.frozen?_alloc_past _ _ _ hbig]
        exact hb.froT _
      have szd : Wd.heap.size = wr.heap.size + 2 := by rw [hWd, World.size_setCell, szc]
      have q3 : We.cell? ⟨W1.heap.size, 53, none⟩ = some (.slice none 0 0) := by
        rw [hWe, World.cell?_alloc_past _ _ _ (by rw [World.size_drew, szd]; omega), World.cell?_drew, hWd, sc_ne (by omega), hWc, World.cell?_setCells_out _ _ _ _ _ (fun e => by have e : W1.heap.size = w.heap.size := e; omega), World.cell?_alloc_past _ _ _ (by rw [World.size_alloc]; exact Nat.lt_succ_of_lt hbig), World.cell?_alloc_past _ _ _ hbig]
        exact htd
      have q4 : We.frozen? ⟨W1.heap.size, 53, none⟩ = false := by
        rw [hWe, World.frozen?_alloc_past _ _ _ (by rw [World.size_drew, szd]; omega), World.frozen?_drew, hWd, World.frozen?_setCell]
        rw [hWc, World.frozen?_setCells, World.frozen?_alloc_past _ _ _ (by rw [World.size_alloc]; exact Nat.lt_succ_of_lt hbig), World.frozen?_alloc_past _ _ _ hbig]
        exact hb.froT _
      have hWd2 : Wc.setCell ⟨W1.heap.size, 256, none⟩ (.slice (some ⟨w.heap.size, 0, none⟩) 2 4) = Wd := hWd.symm
      have HN : Aside (BInv w A w.heap.size W1.heap.size 2 (We.setCell ⟨W1.heap.size, 53, none⟩ (.slice (some ⟨Wd.heap.size, 0, none⟩) 1 cap))) := hnx
      clear hnx hb hWc hWd hWe hcap hzs hi9 hW1 h4 szc szd hA
      go_wp2_with (at_builtin; refine Lib.wpList_append_run _ rfl _ _ _ _ rfl _ _ rfl rfl _ _ (hap _) ?_)
      go_roundg 2
      case measure => omega
      case rel => exact ⟨rfl, HN.out⟩
    · replace hp : u12 = .int .i64 2 := hp
      subst hp
      have ci := hb.cA2
      have cj := hb.cA3
      have h256 : wr.cell? ⟨W1.heap.size, 256, none⟩ = some (.slice (some ⟨w.heap.size, 0, none⟩) 2 4) := hb.t256
      have htd := hb.todo 49 (by omega) (by decide)
      have hbig := hb.big
      have e0 : ∀ h, ((⟨#[49]⟩ : ByteArray)[0]'h).toNat = 49 := fun _ => rfl
      have hn := Lib.run_eql_slice_nil (P := Tryz.prog) wr 22 5 none 0 0 0 0 Tryz.underlying22
      have hcv : (convert 22 9 (.slice (some ⟨wr.heap.size, 0, none⟩) 1 1)).run Tryz.prog (wr.alloc (.cells #[.int .u8 49] 5)) = .ok (.string ⟨#[49]⟩) (wr.alloc (.cells #[.int .u8 49] 5)) := conv1 wr 22 9 5 49 Tryz.underlying22 (by kernel_rfl) (by kernel_rfl)
      obtain ⟨Wc, hWc⟩ : ∃ Wc, Wc = ((wr.alloc (.cells #[.int .u8 49] 5)).alloc (.cells #[.string ⟨#[49]⟩] 9)).setCells w.heap.size (0 + (4 - (1 + 1))) [.string ⟨#[49]⟩] := ⟨_, rfl⟩
      have hap : ∀ ty, (Builtin.append_ #[25, 25] ty #[.slice (some ⟨w.heap.size, 0, none⟩) 2 4, .slice (some ⟨wr.heap.size + 1, 0, none⟩) 1 1]).run Tryz.prog ((wr.alloc (.cells #[.int .u8 49] 5)).alloc (.cells #[.string ⟨#[49]⟩] 9)) = .ok (.slice (some ⟨w.heap.size, 0, none⟩) 3 4) Wc := fun ty => by
        rw [hWc]
        exact app1 (k := 1) hb rfl hW1 25 9 i9 Tryz.underlying25 hi9 hzs (.cells #[.int .u8 49] 5) ⟨#[49]⟩ ty
      obtain ⟨Wd, hWd⟩ : ∃ Wd, Wd = Wc.setCell ⟨W1.heap.size, 256, none⟩ (.slice (some ⟨w.heap.size, 0, none⟩) (4 - 1) 4) := ⟨_, rfl⟩
      have hbs := run_bytes_of_string (P := Tryz.prog) Wd 9 22 5 ⟨#[108]⟩ (by kernel_rfl) Tryz.underlying22 (by kernel_rfl)
      obtain ⟨cap, hcap⟩ : ∃ cap, cap = grownCap Wd (ByteArray.size ⟨#[108]⟩) 0 5 := ⟨_, rfl⟩
      rw [← hcap] at hbs
      obtain ⟨We, hWe⟩ : ∃ We, We = Wd.drew.alloc (.cells (bytesRow ⟨#[108]⟩ cap) 5 ((bytesRow ⟨#[108]⟩ cap).size, (bytesRow ⟨#[108]⟩ cap).size + 1)) := ⟨_, rfl⟩
      rw [← hWe] at hbs
      replace hbs : (convert 9 22 (.string ⟨#[108]⟩)).run Tryz.prog Wd = .ok (.slice (some ⟨Wd.heap.size, 0, none⟩) 1 cap) We := hbs
      have hnx := BInv.next (k := 1) (cap := cap) hb hA rfl hW1 hWc hWd hWe (row_bytes [108] cap)
      have szc : Wc.heap.size = wr.heap.size + 2 := by rw [hWc, size_put, World.size_alloc, World.size_alloc]
      have q1 : Wc.cell? ⟨W1.heap.size, 256, none⟩ = some (.slice (some ⟨w.heap.size, 0, none⟩) 2 4) := by
        rw [hWc, World.cell?_setCells_out _ _ _ _ _ (fun e => by have e : W1.heap.size = w.heap.size := e; omega), World.cell?_alloc_past _ _ _ (by rw [World.size_alloc]; exact Nat.lt_succ_of_lt hbig), World.cell?_alloc_past _ _ _ hbig]
        exact h256
      have q2 : Wc.frozen? ⟨W1.heap.size, 256, none⟩ = false := by
        rw [hWc, World.frozen?_setCells, World.frozen?_alloc_past _ _ _ (by rw [World.size_alloc]; exact Nat.lt_succ_of_lt hbig), World.frozen?_alloc_past _ _ _ hbig]
        exact hb.froT _
      have szd : Wd.heap.size = wr.heap.size + 2 := by rw [hWd, World.size_setCell, szc]
      have q3 : We.cell? ⟨W1.heap.size, 49, none⟩ = some (.slice none 0 0) := by
        rw [hWe, World.cell?_alloc_past _ _ _ (by rw [World.size_drew, szd]; omega), World.cell?_drew, hWd, sc_ne (by omega), hWc, World.cell?_setCells_out _ _ _ _ _ (fun e => by have e : W1.heap.size = w.heap.size := e; omega), World.cell?_alloc_past _ _ _ (by rw [World.size_alloc]; exact Nat.lt_succ_of_lt hbig), World.cell?_alloc_past _ _ _ hbig]
        exact htd
      have q4 : We.frozen? ⟨W1.heap.size, 49, none⟩ = false := by
        rw [hWe, World.frozen?_alloc_past _ _ _ (by rw [World.size_drew, szd]; omega), World.frozen?_drew, hWd, World.frozen?_setCell]
        rw [hWc, World.frozen?_setCells, World.frozen?_alloc_past _ _ _ (by rw [World.size_alloc]; exact Nat.lt_succ_of_lt hbig), World.frozen?_alloc_past _ _ _ hbig]
        exact hb.froT _
      have hWd2 : Wc.setCell ⟨W1.heap.size, 256, none⟩ (.slice (some ⟨w.heap.size, 0, none⟩) 3 4) = Wd := hWd.symm
      have HN : Aside (BInv w A w.heap.size W1.heap.size 1 (We.setCell ⟨W1.heap.size, 49, none⟩ (.slice (some ⟨Wd.heap.size, 0, none⟩) 1 cap))) := hnx
      clear hnx hb hWc hWd hWe hcap hzs hi9 hW1 h4 szc szd hA
      go_wp2_with (at_builtin; refine Lib.wpList_append_run _ rfl _ _ _ _ rfl _ _ rfl rfl _ _ (hap _) ?_)
      go_roundg 1
      case measure => omega
      case rel => exact ⟨rfl, HN.out⟩
    · replace hp : u12 = .int .i64 0 := hp
      subst hp
      have ci := hb.cA0
      have cj := hb.cA1
      have h256 : wr.cell? ⟨W1.heap.size, 256, none⟩ = some (.slice (some ⟨w.heap.size, 0, none⟩) 3 4) := hb.t256
      have htd := hb.todo 48 (by omega) (by decide)
      have hbig := hb.big
      have e0 : ∀ h, ((⟨#[48]⟩ : ByteArray)[0]'h).toNat = 48 := fun _ => rfl
      have hn := Lib.run_eql_slice_nil (P := Tryz.prog) wr 22 5 none 0 0 0 0 Tryz.underlying22
      have hcv : (convert 22 9 (.slice (some ⟨wr.heap.size, 0, none⟩) 1 1)).run Tryz.prog (wr.alloc (.cells #[.int .u8 48] 5)) = .ok (.string ⟨#[48]⟩) (wr.alloc (.cells #[.int .u8 48] 5)) := conv1 wr 22 9 5 48 Tryz.underlying22 (by kernel_rfl) (by kernel_rfl)
      obtain ⟨Wc, hWc⟩ : ∃ Wc, Wc = ((wr.alloc (.cells #[.int .u8 48] 5)).alloc (.cells #[.string ⟨#[48]⟩] 9)).setCells w.heap.size (0 + (4 - (0 + 1))) [.string ⟨#[48]⟩] := ⟨_, rfl⟩
      have hap : ∀ ty, (Builtin.append_ #[25, 25] ty #[.slice (some ⟨w.heap.size, 0, none⟩) 3 4, .slice (some ⟨wr.heap.size + 1, 0, none⟩) 1 1]).run Tryz.prog ((wr.alloc (.cells #[.int .u8 48] 5)).alloc (.cells #[.string ⟨#[48]⟩] 9)) = .ok (.slice (some ⟨w.heap.size, 0, none⟩) 4 4) Wc := fun ty => by
        rw [hWc]
        exact app1 (k := 0) hb rfl hW1 25 9 i9 Tryz.underlying25 hi9 hzs (.cells #[.int .u8 48] 5) ⟨#[48]⟩ ty
      obtain ⟨Wd, hWd⟩ : ∃ Wd, Wd = Wc.setCell ⟨W1.heap.size, 256, none⟩ (.slice (some ⟨w.heap.size, 0, none⟩) (4 - 0) 4) := ⟨_, rfl⟩
      have hbs := run_bytes_of_string (P := Tryz.prog) Wd 9 22 5 ⟨#[111]⟩ (by kernel_rfl) Tryz.underlying22 (by kernel_rfl)
      obtain ⟨cap, hcap⟩ : ∃ cap, cap = grownCap Wd (ByteArray.size ⟨#[111]⟩) 0 5 := ⟨_, rfl⟩
      rw [← hcap] at hbs
      obtain ⟨We, hWe⟩ : ∃ We, We = Wd.drew.alloc (.cells (bytesRow ⟨#[111]⟩ cap) 5 ((bytesRow ⟨#[111]⟩ cap).size, (bytesRow ⟨#[111]⟩ cap).size + 1)) := ⟨_, rfl⟩
      rw [← hWe] at hbs
      replace hbs : (convert 9 22 (.string ⟨#[111]⟩)).run Tryz.prog Wd = .ok (.slice (some ⟨Wd.heap.size, 0, none⟩) 1 cap) We := hbs
      have hnx := BInv.next (k := 0) (cap := cap) hb hA rfl hW1 hWc hWd hWe (row_bytes [111] cap)
      have szc : Wc.heap.size = wr.heap.size + 2 := by rw [hWc, size_put, World.size_alloc, World.size_alloc]
      have q1 : Wc.cell? ⟨W1.heap.size, 256, none⟩ = some (.slice (some ⟨w.heap.size, 0, none⟩) 3 4) := by
        rw [hWc, World.cell?_setCells_out _ _ _ _ _ (fun e => by have e : W1.heap.size = w.heap.size := e; omega), World.cell?_alloc_past _ _ _ (by rw [World.size_alloc]; exact Nat.lt_succ_of_lt hbig), World.cell?_alloc_past _ _ _ hbig]
        exact h256
      have q2 : Wc.frozen? ⟨W1.heap.size, 256, none⟩ = false := by
        rw [hWc, World.frozen?_setCells, World.frozen?_alloc_past _ _ _ (by rw [World.size_alloc]; exact Nat.lt_succ_of_lt hbig), World.frozen?_alloc_past _ _ _ hbig]
        exact hb.froT _
      have szd : Wd.heap.size = wr.heap.size + 2 := by rw [hWd, World.size_setCell, szc]
      have q3 : We.cell? ⟨W1.heap.size, 48, none⟩ = some (.slice none 0 0) := by
        rw [hWe, World.cell?_alloc_past _ _ _ (by rw [World.size_drew, szd]; omega), World.cell?_drew, hWd, sc_ne (by omega), hWc, World.cell?_setCells_out _ _ _ _ _ (fun e => by have e : W1.heap.size = w.heap.size := e; omega), World.cell?_alloc_past _ _ _ (by rw [World.size_alloc]; exact Nat.lt_succ_of_lt hbig), World.cell?_alloc_past _ _ _ hbig]
        exact htd
      have q4 : We.frozen? ⟨W1.heap.size, 48, none⟩ = false := by
        rw [hWe, World.frozen?_alloc_past _ _ _ (by rw [World.size_drew, szd]; omega), World.frozen?_drew, hWd, World.frozen?_setCell]
        rw [hWc, World.frozen?_setCells, World.frozen?_alloc_past _ _ _ (by rw [World.size_alloc]; exact Nat.lt_succ_of_lt hbig), World.frozen?_alloc_past _ _ _ hbig]
        exact hb.froT _
      have hWd2 : Wc.setCell ⟨W1.heap.size, 256, none⟩ (.slice (some ⟨w.heap.size, 0, none⟩) 4 4) = Wd := hWd.symm
      have HN : Aside (BInv w A w.heap.size W1.heap.size 0 (We.setCell ⟨W1.heap.size, 48, none⟩ (.slice (some ⟨Wd.heap.size, 0, none⟩) 1 cap))) := hnx
      clear hnx hb hWc hWd hWe hcap hzs hi9 hW1 h4 szc szd hA
      go_wp2_with (at_builtin; refine Lib.wpList_append_run _ rfl _ _ _ _ rfl _ _ rfl rfl _ _ (hap _) ?_)
      go_roundg 0
      case measure => omega
      case rel => exact ⟨rfl, HN.out⟩
    · replace hp : u12 = .int .i64 (-2) := hp
      subst hp
      have HB : Aside (BInv w A w.heap.size W1.heap.size 0 wr) := hb
      clear hb h4 hA hi9 hzs
      have HW : Aside (W1.heap.size = w.heap.size + 1) := hW1
      clear hW1
      go_wp2
      go_ret
      rw [← HW.out]
      exact ⟨rfl, HB.out⟩

set_option maxHeartbeats 4000000 in
set_option maxRecDepth 1000000 in
theorem once64 (R A G : Nat) (w : World) (hA : A < w.heap.size) (hRA : R ≠ A) (hG : 8 ≤ G) (hr3 : w.cell? ⟨R, 3, none⟩ = some .nilIface) (hr : w.cell? ⟨R, 4, none⟩ = some (.slice (some ⟨A, 0, none⟩) 8 G))
    (f3 : w.frozen? ⟨R, 3, none⟩ = false) (f4 : w.frozen? ⟨R, 4, none⟩ = false)
    (c0 : w.cell? ⟨A, 0, none⟩ = some (.string ⟨#[48]⟩)) (c1 : w.cell? ⟨A, 1, none⟩ = some (.string ⟨#[111]⟩)) (c2 : w.cell? ⟨A, 2, none⟩ = some (.string ⟨#[49]⟩)) (c3 : w.cell? ⟨A, 3, none⟩ = some (.string ⟨#[108]⟩))
    (c4 : w.cell? ⟨A, 4, none⟩ = some (.string ⟨#[53]⟩)) (c5 : w.cell? ⟨A, 5, none⟩ = some (.string ⟨#[115]⟩)) (c6 : w.cell? ⟨A, 6, none⟩ = some (.string ⟨#[45]⟩)) (c7 : w.cell? ⟨A, 7, none⟩ = some (.string ⟨#[]⟩)) :
    Calls Tryz.prog 78 #[.pointer (some ⟨R, 0, none⟩)] w fun e w' => ∃ wx, BInv w A w.heap.size (w.heap.size + 1) 0 wx ∧ e = .returned (.tuple #[]) ∧ w' = (wx.setCell ⟨R, 3, none⟩ (.iface 118 (.pointer (some ⟨w.heap.size + 1, 0, none⟩)))).setCell ⟨R, 4, none⟩ (.slice none 0 0) := by
  have h68 := build68 R A G w hA hG hr c0 c1 c2 c3 c4 c5 c6 c7
  have hR : R < w.heap.size := block_lt_of_cell hr3
  clear c0 c1 c2 c3 c4 c5 c6 c7
  go_enter Tryz.func78, Tryz.ntmps78
  go_wp2_with (first | (go_at_call 84; refine h68.mono ?_; rintro e wx ⟨rfl, hx⟩; have x3 : wx.cell? ⟨R, 3, none⟩ = some .nilIface := (hx.below.cell hR).trans hr3; have x4 : wx.cell? ⟨R, 4, none⟩ = some (.slice (some ⟨A, 0, none⟩) 8 G) := (hx.below.cell hR).trans hr; have y3 : wx.frozen? ⟨R, 3, none⟩ = false := (hx.below.frozen hR).trans f3; have y4 : wx.frozen? ⟨R, 4, none⟩ = false := (hx.below.frozen hR).trans f4; have HX := Aside.intro hx; clear hx h68))
  go_end0
  exact ⟨wx, HX.out, rfl, rfl⟩
set_option maxHeartbeats 4000000 in
set_option maxRecDepth 1000000 in
theorem slow67 (R A G : Nat) (w : World) (h : Fresh R A G w) :
    Calls Tryz.prog 83 #[.pointer (some ⟨R, 0, none⟩), .func (.func 78) #[.pointer (some ⟨R, 0, none⟩)] #[]] w fun e w' => e = .returned (.tuple #[]) ∧ After 118 R A w w' := by
  have hR := h.hR
  have l0 : (locked R w).cell? ⟨R, 0, none⟩ = some (.int .u32 0) := by unfold locked; rw [sc_ne (by omega)]; exact h.r0
  have l3 : (locked R w).cell? ⟨R, 3, none⟩ = some .nilIface := by unfold locked; rw [sc_ne (by omega)]; exact h.r3
  have l4 : (locked R w).cell? ⟨R, 4, none⟩ = some (.slice (some ⟨A, 0, none⟩) 8 G) := by unfold locked; rw [sc_ne (by omega)]; exact h.r4
  have l1 : (locked R w).cell? ⟨R, 1, none⟩ = some (.int .i32 1) := sc_eq h.r1
  have lf : ∀ j, (locked R w).frozen? ⟨R, j, none⟩ = false := fun j => by unfold locked; rw [World.frozen?_setCell]; exact h.fz j
  have lA : ∀ j, (locked R w).cell? ⟨A, j, none⟩ = w.cell? ⟨A, j, none⟩ := fun j => World.cell?_setCell_far _ _ _ _ h.hRA
  have ls : (locked R w).heap.size = w.heap.size := World.size_setCell ..
  have h64 := once64 R A G (locked R w) (by rw [ls]; exact h.hA) h.hRA h.hG l3 l4 (lf 3) (lf 4) ((lA 0).trans h.c0) ((lA 1).trans h.c1) ((lA 2).trans h.c2) ((lA 3).trans h.c3) ((lA 4).trans h.c4) ((lA 5).trans h.c5) ((lA 6).trans h.c6) ((lA 7).trans h.c7)
  have hlock := Go.MuLone.lock_free muLibT ⟨R, 1, none⟩ w h.r1 (h.fz 1)
  have hload := load66 ⟨R, 0, none⟩ 0 (locked R w) l0 (.inl rfl)
  have hnot : ∀ (x : Bool) (w : World), (Op.unary .not (.bool x)).run Tryz.prog w = .ok (.bool (!x)) w := fun _ _ => rfl
  rw [ls] at h64
  clear lA
  have HH : Aside (Fresh R A G w) := h
  clear h
  go_enter_defers Tryz.func83, Tryz.ntmps83
  go_wp2_with (first | (go_at_call 86; refine hlock.mono ?_; rintro e w' ⟨rfl, rfl⟩) | (go_at_call 82; refine hload.mono ?_; rintro e w' ⟨rfl, rfl⟩) | (go_at_call 78; refine h64.mono ?_; rintro e w' ⟨wx, hx, rfl, rfl⟩))
  have hRs : R < w.heap.size := hR
  have k0 : (built 118 R (w.heap.size + 1) wx).cell? ⟨R, 0, none⟩ = some (.int .u32 0) := by
    unfold built
    rw [sc_ne (by omega), sc_ne (by omega)]
    exact (hx.below.cell (by rw [ls]; exact hR)).trans l0
  have k1 : ((built 118 R (w.heap.size + 1) wx).drew.setCell ⟨R, 0, none⟩ (.int .u32 1)).cell? ⟨R, 1, none⟩ = some (.int .i32 1) := by
    unfold built
    rw [sc_ne (by omega), World.cell?_drew, sc_ne (by omega), sc_ne (by omega)]
    exact (hx.below.cell (by rw [ls]; exact hR)).trans l1
  have kf : ∀ j, (built 118 R (w.heap.size + 1) wx).frozen? ⟨R, j, none⟩ = false := fun j => by
    unfold built
    rw [World.frozen?_setCell, World.frozen?_setCell]
    exact (hx.below.frozen (by rw [ls]; exact hR)).trans (lf j)
  refine leaves_cons (f := 88) (args := #[.pointer (some ⟨R, 0, none⟩), .bool true]) (by simp) (by simp [go_sem]) ?_
  refine (store72 ⟨R, 0, none⟩ (.int .u32 0) .returning (built 118 R (w.heap.size + 1) wx) k0 (kf 0)).mono ?_
  rintro e u' w'' ⟨rfl, rfl, rfl⟩
  refine leaves_cons (f := 87) (args := #[.pointer (some ⟨R, 1, none⟩)]) (by simp [settle]) (by simp [go_sem]) ?_
  refine (Go.MuLone.unlock_deferred muLibT ⟨R, 1, none⟩ _ _ k1 (by rw [World.frozen?_setCell, World.frozen?_drew]; exact kf 1)).mono ?_
  rintro e u' w'' ⟨rfl, rfl, rfl⟩
  exact ⟨_, results_none rfl _ _ _, rfl, wx, hx, rfl⟩
set_option maxHeartbeats 4000000 in
set_option maxRecDepth 1000000 in
theorem do63 (R A G : Nat) (w : World) (h : Fresh R A G w) :
    Calls Tryz.prog 77 #[.pointer (some ⟨R, 0, none⟩), .func (.func 78) #[.pointer (some ⟨R, 0, none⟩)] #[]] w fun e w' => e = .returned (.tuple #[]) ∧ After 118 R A w w' := by
  have hslow := slow67 R A G w h
  have hload := load66 ⟨R, 0, none⟩ 0 w h.r0 (.inl rfl)
  have hnot : ∀ (x : Bool) (w : World), (Op.unary .not (.bool x)).run Tryz.prog w = .ok (.bool (!x)) w := fun _ _ => rfl
  clear h
  go_enter Tryz.func77, Tryz.ntmps77
  go_wp2_with (first | (go_at_call 82; refine hload.mono ?_; rintro e w' ⟨rfl, rfl⟩) | (go_at_call 83; refine hslow.mono ?_; rintro e w' ⟨rfl, hx⟩))
  go_end0
  exact ⟨rfl, hx⟩

set_option maxHeartbeats 4000000 in
set_option maxRecDepth 1000000 in
theorem rep130 (T : Nat) (s : ByteArray) (W : World) (h : Table T W) (hs : s.size ≤ 8) :
    Calls Tryz.prog 146 #[.pointer (some ⟨T, 0, none⟩), .string s] W fun e w' => e = .returned (.string ⟨(s.data.toList.flatMap outOf).toArray⟩) ∧ Below W.heap.size W w' := by
  obtain ⟨a4, h4⟩ := h.t256
  have H : Aside (Table T W) := h
  clear h
  have hnot : ∀ (x : Bool) (w : World), (Op.unary .not (.bool x)).run Tryz.prog w = .ok (.bool (!x)) w := fun _ _ => rfl
  go_enter Tryz.func146, Tryz.ntmps146
  go_wp2
  go_loopg [5, 6, 10] s.size (fun k p5 p6 p10 wr => ∃ i : Nat, i ≤ s.size ∧ k = s.size - i ∧ wr = W ∧ p10 = .int .i64 (i : Int) ∧ p5 = .int .i64 (sizeAt s i) ∧ p6 = .bool (anyAt s i))
  case atStart => exact ⟨0, Nat.zero_le _, rfl, rfl, rfl, by simp [sizeAt], rfl⟩
  case round =>
    obtain ⟨i, hi, rfl, hw, rfl, rfl, rfl⟩ := hrel
    replace hw := hw.symm
    subst hw
    obtain ⟨hz1, hz2⟩ := sizeAt_le hi
    have hA : Aside (0 ≤ sizeAt s i ∧ sizeAt s i ≤ s.size) := ⟨hz1, hz2⟩
    clear hz1 hz2
    by_cases hlt : i < s.size
    · have hb : ((s[i]).toNat : Int) < 256 := by have := (s[i]).toNat_lt; omega
      cases hrp : rep s[i] with
      | none =>
        have hc := H.out.no _ hrp
        have hn := neq_nil (P := Tryz.prog) W 22 5 none 0 0 Tryz.underlying22
        have HR : Aside (rep s[i] = none) := hrp
        clear hrp
        go_wp2
        go_roundg (s.size - (i + 1))
        case measure => omega
        case rel => exact ⟨i + 1, by omega, rfl, rfl, by first | rfl | simp, by rw [sizeAt_none hlt HR.out], by rw [anyAt_step hlt, HR.out]; simp⟩
      | some l =>
        obtain ⟨k, c, hc, hk, hkc⟩ := H.out.yes _ _ hrp
        have hn := neq_nil (P := Tryz.prog) W 22 5 (some ⟨k, 0, none⟩) l.length c Tryz.underlying22
        have HR : Aside (rep s[i] = some l) := hrp
        have HK : Aside (k < W.heap.size ∧ ∀ j u, l[j]? = some u → W.cell? ⟨k, j, none⟩ = some (.int .u8 u.toNat)) := ⟨hk, hkc⟩
        clear hrp hk hkc
        go_wp2
        go_roundg (s.size - (i + 1))
        case measure => omega
        case rel => exact ⟨i + 1, by omega, rfl, rfl, by first | rfl | simp, by
          have q1 := hA.out
          have q2 := rep_len HR.out
          rw [sizeAt_some hlt HR.out, show wrap64 (sizeAt s i + wrap64 ((l.length : Int) - 1)) = sizeAt s i + ((l.length : Int) - 1) from by
            rw [IntWalk.wrap64_in ((l.length : Int) - 1) (by omega), IntWalk.wrap64_in _ (by omega)]], by rw [anyAt_step hlt, HR.out]; simp⟩
    · have hie : i = s.size := by omega
      subst hie
      clear hlt hi
      obtain ⟨N, hN⟩ : ∃ N : Nat, N = ((bs s).flatMap outOf).length := ⟨_, rfl⟩
      have hz : sizeAt s s.size = (N : Int) := by
        unfold sizeAt
        rw [hN, List.take_of_length_le (by show s.data.toList.length ≤ _; rw [Array.length_toList]; exact Nat.le_refl _)]
        omega
      have hN8 : N ≤ 8 := by
        have := hA.out.2
        omega
      obtain ⟨i5, hi5, hzz⟩ := Option.map_eq_some_iff.1 (show (Tryz.prog.info? 5).map (fun i => (i.zero, i.size, i.bytes)) = some (some (.int .u8 0), 1, 1) by kernel_rfl)
      simp only [Prod.mk.injEq] at hzz
      obtain ⟨hz0, hzs, hzb⟩ := hzz
      obtain ⟨W1, hW1⟩ : ∃ W1, W1 = W.alloc (.cells (madeCells (Value.int .u8 0).cells ((N : Int).toNat * i5.size)) 5) := ⟨_, rfl⟩
      have hmk : (Instr.makeSlice 22 (.int .i64 (N : Int)) (.int .i64 (N : Int))).run Tryz.prog W = .ok (.slice (some ⟨W.heap.size, 0, none⟩) N N) W1 := by
        rw [hW1]
        exact run_makeSlice (P := Tryz.prog) (w := W) 22 5 i5 _ Tryz.underlying22 hi5 hz0 .i64 .i64 N N (by omega) (by omega) (by rw [hzs]; omega) (by rw [hzb]; omega) (by omega)
      have BF : Buf W W.heap.size N [] W1 := by
        refine ⟨?_, ?_, ?_, ?_, fun j u h => by cases h⟩
        · rw [hW1]; exact Below.alloc (Below.refl _ _) (Nat.le_refl _) _
        · rw [hW1, World.size_alloc]; omega
        · intro j hj
          have hmc : (madeCells (Value.int .u8 0).cells ((N : Int).toNat * i5.size)).size = N := by rw [hzs, size_madeCells]; omega
          rw [hW1, World.cell?_alloc_new, Array.getElem?_eq_getElem (by omega)]; rfl
        · intro j; rw [hW1, World.frozen?_alloc_new]
      rw [hz]
      have HZ : Aside (N = ((bs s).flatMap outOf).length ∧ N ≤ 8) := ⟨hN, hN8⟩
      clear hN hz hzs hzb hz0 hi5 hW1 hN8
      cases han : anyAt s s.size with
      | false =>
        have HF : Aside ((bs s).flatMap outOf = bs s) := by
          unfold anyAt at han
          rw [List.take_of_length_le (by show s.data.toList.length ≤ _; rw [Array.length_toList]; exact Nat.le_refl _)] at han
          exact flat_same _ (fun b hb => by
            have := List.any_eq_false.1 han b hb
            cases h : rep b with
            | none => rfl
            | some l => rw [h] at this; simp at this)
        clear BF
        go_wp2
        go_ret
        refine ⟨?_, Below.refl _ _⟩
        show Ending.returned (.string s) = _
        rw [HF.out]
      | true =>
        go_wp2
        go_loopg [13, 14] s.size (fun k p13 p14 w2 => ∃ i j : Nat, i ≤ s.size ∧ k = s.size - i ∧ p14 = .int .i64 (i : Int) ∧ p13 = .int .i64 (j : Int) ∧ j = (outs s i).length ∧ Buf W W.heap.size N (outs s i) w2)
        case atStart => exact ⟨0, 0, Nat.zero_le _, rfl, rfl, rfl, rfl, BF⟩
        case round =>
          obtain ⟨i, j, hi, rfl, rfl, rfl, hj, hbuf⟩ := hrel
          have HBf : Aside (j = (outs s i).length ∧ Buf W W.heap.size N (outs s i) wr) := ⟨hj, hbuf⟩
          clear BF
          by_cases hlt : i < s.size
          · have hb : ((s[i]).toNat : Int) < 256 := by have := (s[i]).toNat_lt; omega
            have hmono : (outs s (i + 1)).length ≤ N := by
              rw [HZ.out.1, ← outs_all]
              exact outs_le hlt
            rw [outs_step hlt, List.length_append] at hmono
            rw [← hj] at hmono
            clear hj
            cases hrp : rep s[i] with
            | none =>
              have ho : outOf s[i] = [s[i]] := by unfold outOf; rw [hrp]; rfl
              rw [ho] at hmono
              have hjN : j < N := by simp at hmono; omega
              have hc := (hbuf.below.cell H.out.hT).trans (H.out.no _ hrp)
              have HO : Aside (outOf s[i] = [s[i]]) := ho
              obtain ⟨v0, q1⟩ := Option.isSome_iff_exists.1 (hbuf.room j hjN)
              have q2 := hbuf.fz j
              have hn2 : ∀ w, (binOp .neq 22 (.slice none 0 0) (.slice none 0 0)).run Tryz.prog w = .ok (.bool (!(none : Option Addr).isNone)) w := fun w => neq_nil w 22 5 none 0 0 Tryz.underlying22
              clear hbuf hmono hrp ho
              go_wp2
              go_roundg (s.size - (i + 1))
              case measure => omega
              case rel =>
                obtain ⟨hj, hbuf⟩ := HBf.out
                refine ⟨i + 1, j + 1, by omega, rfl, rfl, ?_, ?_, ?_⟩
                · rw [IntWalk.wrap64_in _ (by have := HZ.out.2; omega)]; rfl
                · rw [outs_step hlt, HO.out, List.length_append, ← hj]; rfl
                · rw [outs_step hlt, HO.out]
                  exact hbuf.put hj hjN rfl
            | some l =>
              have ho : outOf s[i] = l := by unfold outOf; rw [hrp]; rfl
              rw [ho] at hmono
              have hl1 := rep_len hrp
              obtain ⟨k, c, hc0, hk, hkc⟩ := H.out.yes _ _ hrp
              have hc := (hbuf.below.cell H.out.hT).trans hc0
              have HO : Aside (outOf s[i] = l ∧ j + l.length ≤ N ∧ l.length ≤ 1) := ⟨ho, hmono, hl1⟩
              have hjN : j ≤ N := by omega
              have hn2 : ∀ w, (binOp .neq 22 (.slice (some ⟨k, 0, none⟩) l.length c) (.slice none 0 0)).run Tryz.prog w = .ok (.bool (!(some (⟨k, 0, none⟩ : Addr)).isNone)) w := fun w => neq_nil w 22 5 (some ⟨k, 0, none⟩) l.length c Tryz.underlying22
              have hin : (Tryz.prog.info? 5).map (·.size) = some 1 := by kernel_rfl
              obtain rfl | ⟨x, rfl⟩ : l = [] ∨ ∃ x, l = [x] := by
                cases l with
                | nil => exact .inl rfl
                | cons x t =>
                  cases t with
                  | nil => exact .inr ⟨x, rfl⟩
                  | cons y t => simp at hl1
              · replace hn2 : ∀ w, (binOp .neq 22 (.slice (some ⟨k, 0, none⟩) 0 c) (.slice none 0 0)).run Tryz.prog w = .ok (.bool (!(some (⟨k, 0, none⟩ : Addr)).isNone)) w := hn2
                replace hc : wr.cell? ⟨T, (s[i]).toNat, none⟩ = some (.slice (some ⟨k, 0, none⟩) 0 c) := hc
                by_cases hNj : N = j
                · have hcp : (Builtin.copy_ #[22, 22] 3 #[.slice (some ⟨W.heap.size, 0, none⟩) 0 0, .slice (some ⟨k, 0, none⟩) 0 c]).run Tryz.prog wr.drew = .ok (.int .i64 0) wr.drew :=
                    run_copy_cells (P := Tryz.prog) wr.drew 22 22 3 5 W.heap.size 0 0 0 ⟨k, 0, none⟩ 0 c [] Tryz.underlying22 hin (by simp) (fun j v h => by cases h) (fun j h => by cases h) (fun j h => by cases h) (fun v h => by cases h)
                  clear hbuf hmono hrp ho hl1 hkc hk hc0 hin
                  go_wp2
                  go_region
                  all_goals go_wp2
                  go_roundg (s.size - (i + 1))
                  case measure => omega
                  case rel =>
                    obtain ⟨hj, hbuf⟩ := HBf.out
                    refine ⟨i + 1, j, by omega, rfl, rfl, ?_, ?_, ?_⟩
                    · rw [IntWalk.wrap64_in _ (by have := HZ.out.2; omega)]
                    · rw [outs_step hlt, HO.out.1, List.append_nil, ← hj]
                    · rw [outs_step hlt, HO.out.1, List.append_nil]
                      exact hbuf.drew
                · have hcp : (Builtin.copy_ #[22, 22] 3 #[.slice (some ⟨W.heap.size, j, none⟩) (N - j) (N - j), .slice (some ⟨k, 0, none⟩) 0 c]).run Tryz.prog wr.drew = .ok (.int .i64 0) wr.drew :=
                    run_copy_cells (P := Tryz.prog) wr.drew 22 22 3 5 W.heap.size j (N - j) (N - j) ⟨k, 0, none⟩ 0 c [] Tryz.underlying22 hin (by simp) (fun j v h => by cases h) (fun j h => by cases h) (fun j h => by cases h) (fun v h => by cases h)
                  clear hbuf hmono hrp ho hl1 hkc hk hc0 hin
                  go_wp2
                  go_region
                  all_goals go_wp2
                  go_roundg (s.size - (i + 1))
                  case measure => omega
                  case rel =>
                    obtain ⟨hj, hbuf⟩ := HBf.out
                    refine ⟨i + 1, j, by omega, rfl, rfl, ?_, ?_, ?_⟩
                    · rw [IntWalk.wrap64_in _ (by have := HZ.out.2; omega)]
                    · rw [outs_step hlt, HO.out.1, List.append_nil, ← hj]
                    · rw [outs_step hlt, HO.out.1, List.append_nil]
                      exact hbuf.drew
              · replace hn2 : ∀ w, (binOp .neq 22 (.slice (some ⟨k, 0, none⟩) 1 c) (.slice none 0 0)).run Tryz.prog w = .ok (.bool (!(some (⟨k, 0, none⟩ : Addr)).isNone)) w := hn2
                replace hc : wr.cell? ⟨T, (s[i]).toNat, none⟩ = some (.slice (some ⟨k, 0, none⟩) 1 c) := hc
                have hjN1 : j < N := by simp at hmono; omega
                have hNj : ¬ N = j := by omega
                have hcp : (Builtin.copy_ #[22, 22] 3 #[.slice (some ⟨W.heap.size, j, none⟩) (N - j) (N - j), .slice (some ⟨k, 0, none⟩) 1 c]).run Tryz.prog wr.drew = .ok (.int .i64 1) (wr.drew.setCell ⟨W.heap.size, j, none⟩ (.int .u8 x.toNat)) :=
                  run_copy_cells (P := Tryz.prog) wr.drew 22 22 3 5 W.heap.size j (N - j) (N - j) ⟨k, 0, none⟩ 1 c [.int .u8 x.toNat] Tryz.underlying22 hin (by simp [Nat.min_def]; omega) (fun t v h => by
                    have ht : t = 0 := by have := (List.getElem?_eq_some_iff.1 h).1; simp at this; omega
                    subst ht
                    rw [Addr.add_lit, World.cell?_drew, hbuf.below.cell hk, hkc 0 x rfl]
                    exact h) (fun t h => by
                    have ht : t = 0 := by simp at h; omega
                    subst ht
                    exact hbuf.room j hjN1) (fun t h => hbuf.fz _) (fun v h => by
                    simp only [List.mem_singleton] at h
                    rw [h]; rfl)
                clear hbuf hmono hrp ho hl1 hkc hk hc0 hin
                go_wp2
                go_region
                all_goals go_wp2
                go_roundg (s.size - (i + 1))
                case measure => omega
                case rel =>
                  obtain ⟨hj, hbuf⟩ := HBf.out
                  refine ⟨i + 1, j + 1, by omega, rfl, rfl, ?_, ?_, ?_⟩
                  · rw [IntWalk.wrap64_in _ (by have := HZ.out.2; omega)]; rfl
                  · rw [outs_step hlt, HO.out.1, List.length_append, ← hj]; rfl
                  · rw [outs_step hlt, HO.out.1]
                    exact (hbuf.drew.put hj hjN1 rfl)
          · have hie : i = s.size := by omega
            subst hie
            clear hlt hi
            have hN := HZ.out.1
            rw [← outs_all] at hN
            have hcv0 := run_convert_bytes_back (P := Tryz.prog) wr 22 9 5 ⟨W.heap.size, 0, none⟩ N (outs s s.size) Tryz.underlying22 (by kernel_rfl) (by kernel_rfl) (fun t ht => by
              rw [Addr.add_lit, Nat.zero_add]
              exact hbuf.at_ t _ (List.getElem?_eq_getElem ht))
            rw [← hN] at hcv0
            have HF : Aside (outs s s.size = (bs s).flatMap outOf) := outs_all s
            have HB : Aside (Below W.heap.size W wr) := hbuf.below
            clear hbuf hN hj
            obtain ⟨ob, hob⟩ : ∃ ob : ByteArray, ob = ⟨(outs s s.size).toArray⟩ := ⟨_, rfl⟩
            rw [← hob] at hcv0
            have HOB : Aside (ob = ⟨(outs s s.size).toArray⟩) := hob
            clear hob
            go_wp2
            go_ret
            refine ⟨?_, HB.out⟩
            rw [HOB.out, HF.out]
            rfl

set_option maxHeartbeats 4000000 in
set_option maxRecDepth 1000000 in
theorem rep58 (R A G : Nat) (s : ByteArray) (w : World) (hs : s.size ≤ 8) (h : Fresh R A G w) :
    Calls Tryz.prog 61 #[.pointer (some ⟨R, 0, none⟩), .string s] w fun e w' => ∃ w1, After 118 R A w w1 ∧ e = .returned (.string ⟨(s.data.toList.flatMap outOf).toArray⟩) ∧ Below w1.heap.size w1 w' := by
  have hdo := do63 R A G w h
  have hmf : ∀ (fn : Fn) (first cap : Array Value) (w : World), (Instr.makeFunc fn first cap).run Tryz.prog w = .ok (.func fn first cap) w := fun _ _ _ _ => rfl
  have hrep : ∀ w1, After 118 R A w w1 → Calls Tryz.prog 146 #[.pointer (some ⟨w.heap.size + 1, 0, none⟩), .string s] w1 fun e w' => e = .returned (.string ⟨(s.data.toList.flatMap outOf).toArray⟩) ∧ Below w1.heap.size w1 w' := fun w1 h1 => rep130 _ s w1 (h1.table h.hR) hs
  have HF : Aside (Fresh R A G w) := h
  clear h
  go_enter Tryz.func61, Tryz.ntmps61
  go_wp2_with (first | (go_at_call 77; refine hdo.mono ?_; rintro e w1 ⟨rfl, hx⟩; have h3 := hx.iface HF.out; have HX : Aside (After 118 R A w w1) := hx; clear hx) | (go_at_call 146; refine (hrep _ HX.out).mono ?_; rintro e w2 ⟨rfl, hb⟩))
  go_ret
  exact ⟨w1, HX.out, rfl, hb⟩
set_option maxHeartbeats 4000000 in
set_option maxRecDepth 1000000 in
theorem plain49 (s : ByteArray) (w : World) (hs : s.size ≤ 8) :
    Calls Tryz.prog 41 #[.string s] w fun e w' => e = .returned (.string ⟨(s.data.toList.flatMap outOf).toArray⟩) ∧ Below w.heap.size w w' := by
  obtain ⟨w1, hw1⟩ : ∃ w1, w1 = w.alloc (.cells strs8.toArray 9) := ⟨_, rfl⟩
  have hs1 : w1.heap.size = w.heap.size + 1 := by rw [hw1, World.size_alloc]
  have h57 := new57 w.heap.size w1 strs8 rfl (by decide) (fun j v hj => by
    have hj8 := (List.getElem?_eq_some_iff.1 hj).1
    have := World.cell?_alloc_at (w := w) strs8.toArray 9 w.heap.size j rfl
    rw [hw1, this, ← hj]
    simp)
  have h58 : ∀ G w2, Fresh (w1.heap.size + 1) w1.heap.size G w2 → Calls Tryz.prog 61 #[.pointer (some ⟨w1.heap.size + 1, 0, none⟩), .string s] w2 fun e w' => ∃ w3, After 118 (w1.heap.size + 1) w1.heap.size w2 w3 ∧ e = .returned (.string ⟨(s.data.toList.flatMap outOf).toArray⟩) ∧ Below w3.heap.size w3 w' := fun G w2 h => rep58 _ _ G s w2 hs h
  have hB1 : Below w.heap.size w w1 := by rw [hw1]; exact Below.alloc (Below.refl _ _) (Nat.le_refl _) _
  have hw2 : w.alloc (.cells #[.string ⟨#[48]⟩, .string ⟨#[111]⟩, .string ⟨#[49]⟩, .string ⟨#[108]⟩, .string ⟨#[53]⟩, .string ⟨#[115]⟩, .string ⟨#[45]⟩, .string ⟨#[]⟩] 9) = w1 := hw1.symm
  clear hw1
  have h57b : Calls Tryz.prog 60 #[.slice (some ⟨w.heap.size, 0, none⟩) 8 8] w1 fun e w2 => ∃ G, e = .returned (.pointer (some ⟨w1.heap.size + 1, 0, none⟩)) ∧ Fresh (w1.heap.size + 1) w1.heap.size G w2 ∧ Below w.heap.size w w2 := by
    refine h57.mono ?_
    rintro e w2 ⟨G, h1, h2, h3, h4⟩
    refine ⟨G, h1, ?_, ?_⟩
    · subst h4
      exact fresh_of w1 G 9 97 h3 (Builtin.zeroCells (Value.string ⟨#[]⟩).cells (G - 8))
    · subst h4
      exact Below.alloc (Below.alloc (Below.drew hB1) (by rw [World.size_drew]; omega) _) (by rw [World.size_alloc, World.size_drew]; omega) _
  clear h57
  have HS : Aside (w1.heap.size = w.heap.size + 1) := hs1
  clear hs1
  go_enter Tryz.func41, Tryz.ntmps41
  go_wp2_with (first | (go_at_call 60; refine h57b.mono ?_; rintro e w2 ⟨G, rfl, hfr, hB2⟩) | (go_at_call 61; refine (h58 _ _ hfr).mono ?_; rintro e w4 ⟨w3, ha, rfl, hb⟩))
  go_ret
  have q1 := hfr.hR
  have hs1 := HS.out
  have q2 := ha.size
  exact ⟨rfl, (ha.below hB2 (by omega) q1).trans (hb.mono (by omega))⟩

end Rpl
theorem said_impl_PlainOf (a0 : ByteArray) (g : G.impl_PlainOf a0 = true) : Said Tryz.prog sigs_41 41 [.val .str a0] [⟨.str, N.impl_PlainOf a0⟩] :=
  Rpl.said_str Tryz.func41 (by kernel_rfl) (by kernel_rfl) (fun w ok vs h => by
    obtain ⟨v0, vs0, rfl, h0, rfl⟩ := h
    rw [avr_str h0, show N.impl_PlainOf a0 = _ from (Rpl.plain_is a0).symm]
    exact Rpl.plain49 a0 w (of_decide_eq_true g))

end Go.Proofs.YtcmjbplnjjdcdaaGreat.Ref
