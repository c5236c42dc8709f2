/- The proof system: an abstract machine over data, and that what it computes the code computes.
   Conditions: as each theorem states. -/
import Derived.Test.YtcmjbplnjjdcdaaK4
import Derived.Lib.Bytealg
set_option linter.unusedVariables false
set_option linter.unusedSimpArgs false
namespace Go.Proofs.Ytcmjbplnjjdcdaa.Ref
open Go.RowKit Go.Proofs.YtcmjbplnjjdcdaaW.PrintWords Go.Proofs.YtcmjbplnjjdcdaaW.PrintLast

theorem wrap_id {n : Int} (h0 : -9223372036854775808 ≤ n) (h1 : n < 9223372036854775808) : IntKind.wrap .i64 n = n := by
  have e : IntKind.wrap .i64 n = if n % 18446744073709551616 ≥ 9223372036854775808 then n % 18446744073709551616 - 18446744073709551616 else n % 18446744073709551616 := by
    unfold IntKind.wrap
    simp [IntKind.signed, IntKind.bits]
  rw [e]
  split <;> omega
theorem wrap_succ {j : Nat} (h : j < big) : IntKind.wrap .i64 ((j : Int) + 1) = ((j + 1 : Nat) : Int) := by
  unfold big at h
  rw [wrap_id (by omega) (by omega)]
  omega
theorem inRange_nat (j n : Nat) : inRange (j : Int) n = decide (j < n) := by
  unfold inRange
  by_cases h : j < n
  · have h1 : (j : Int) < (n : Int) := by omega
    simp [h, h1]
  · have h1 : ¬ (j : Int) < (n : Int) := by omega
    simp [h, h1]
theorem lt_nat (j n : Nat) : decide ((j : Int) < (n : Int)) = decide (j < n) := by
  by_cases h : j < n
  · have h1 : (j : Int) < (n : Int) := by omega
    simp [h, h1]
  · have h1 : ¬ (j : Int) < (n : Int) := by omega
    simp [h, h1]
/-- n rounds from number j on. -/
def iter {σ ρ : Type} (f : Nat → σ → (σ → Option ρ) → Option ρ) (e : σ → Option ρ) : Nat → Nat → σ → Option ρ
  | 0, _, s => e s
  | n + 1, j, s => f j s (iter f e n (j + 1))
theorem loop_iter {σ ρ : Type} {len : Nat} {f : Nat → σ → (σ → Option ρ) → Option ρ} {e : σ → Option ρ} {L : Nat → Int → σ → Option ρ}
    (h : ∀ m j s, j < len → L (m + 1) (j : Int) s = f j s (fun s' => L m ((j + 1 : Nat) : Int) s')) (he : ∀ m s, L (m + 1) (len : Int) s = e s) : ∀ (n j m : Nat) (s : σ), n + j = len → n < m → L m (j : Int) s = iter f e n j s
  | 0, j, 0, s, _, hm => by omega
  | 0, j, m + 1, s, hn, _ => by
    have : j = len := by omega
    subst this
    exact he m s
  | n + 1, j, 0, s, _, hm => by omega
  | n + 1, j, m + 1, s, hn, hm => by
    rw [h m j s (by omega)]
    show f j s _ = f j s _
    congr 1
    funext s'
    exact loop_iter h he n (j + 1) m s' (by omega) (by omega)
/-- Two lists, place by place. -/
def allN (q : Nat → Bool) : Nat → Nat → Bool
  | 0, _ => true
  | n + 1, j => q j && allN q n (j + 1)
def eqL {α : Type} (p : α → α → Bool) (d : α) (a b : List α) : Bool := (a.length == b.length) && allN (fun j => p (a.getD j d) (b.getD j d)) a.length 0
theorem allN_true {q : Nat → Bool} (h : ∀ j, q j = true) : ∀ n j, allN q n j = true
  | 0, _ => rfl
  | n + 1, j => by unfold allN; rw [h j, allN_true h n (j + 1)]; rfl
theorem eqL_refl {α : Type} {p : α → α → Bool} {d : α} (h : ∀ x, p x x = true) (a : List α) : eqL p d a a = true := by
  unfold eqL
  rw [allN_true (fun j => h _)]
  simp
theorem iter_all {σ ρ : Type} {q : Nat → Bool} {k : Bool → Option ρ} : ∀ (n j : Nat) (s : σ), iter (fun j s c => cond (!(q j)) (k false) (c s)) (fun _ => k true) n j s = k (allN q n j)
  | 0, _, _ => rfl
  | n + 1, j, s => by
    show cond (!(q j)) (k false) _ = k (q j && allN q n (j + 1))
    rw [iter_all n (j + 1) s]
    cases q j <;> rfl
/-- A loop that compares two lists place by place. -/
theorem loop_eqL {α ρ : Type} {p : α → α → Bool} {d : α} {k : Bool → Option ρ} {a b : List α} (hab : a.length = b.length) (hb : a.length ≤ big) {L : Nat → Int → Option ρ}
    (h : ∀ m i, L (m + 1) i = cond (decide (i < (a.length : Int))) (cond (inRange i a.length) (cond (inRange i b.length) (cond (!(p (a.getD i.toNat d) (b.getD i.toNat d))) (k false) (L m (IntKind.wrap .i64 (i + 1)))) none) none) (k true)) :
    ∀ {n : Nat}, a.length < n → L n 0 = k (eqL p d a b) := by
  intro n hn
  have h1 := loop_iter (σ := Unit) (len := a.length) (f := fun j s c => cond (!(p (a.getD j d) (b.getD j d))) (k false) (c s)) (e := fun _ => k true) (L := fun m i _ => L m i) (fun m j s hj => by
    rw [h m (j : Int), lt_nat, inRange_nat, inRange_nat, wrap_succ (by omega)]
    have h2 : decide (j < a.length) = true := by simpa using hj
    have h3 : decide (j < b.length) = true := by rw [← hab]; exact h2
    simp [h2, h3]) (fun m s => by
    rw [h m _]
    simp) a.length 0 n () (by omega) hn
  have h2 : L n 0 = _ := h1
  rw [h2, iter_all]
  have h3 : (a.length == b.length) = true := by simp [hab]
  unfold eqL
  rw [h3, Bool.true_and]
theorem loop_n {σ ρ : Type} {len : Nat} (hb : len ≤ big) {L : Nat → Int → σ → Option ρ} {F : Int → σ → (σ → Option ρ) → Option ρ} {e : σ → Option ρ}
    (h : ∀ m i s, L (m + 1) i s = cond (decide (i < (len : Int))) (F i s (fun s' => L m (IntKind.wrap .i64 (i + 1)) s')) (e s)) {n : Nat} {s : σ} (hn : len < n) : L n 0 s = iter (fun j => F (j : Int)) e len 0 s := by
  refine loop_iter (len := len) (f := fun j => F (j : Int)) (fun m j s hj => ?_) (fun m s => ?_) len 0 n s (by omega) hn
  · rw [h m (j : Int) s, lt_nat, wrap_succ (by omega)]
    simp [hj]
  · rw [h m _ s]
    simp
/-- Over a list's elements, with their places. -/
def foldI {α σ ρ : Type} (f : Int → α → σ → (σ → Option ρ) → Option ρ) (e : σ → Option ρ) : Nat → List α → σ → Option ρ
  | _, [], s => e s
  | j, x :: xs, s => f (j : Int) x s (foldI f e (j + 1) xs)
theorem iter_foldI {α σ ρ : Type} {a : List α} {d : α} {f : Int → α → σ → (σ → Option ρ) → Option ρ} {F : Int → σ → (σ → Option ρ) → Option ρ} {e : σ → Option ρ} (hF : ∀ j s c, j < a.length → F (j : Int) s c = f (j : Int) (a.getD j d) s c) :
    ∀ (n j : Nat) (s : σ), n + j = a.length → iter (fun j => F (j : Int)) e n j s = foldI f e j (a.drop j) s
  | 0, j, s, h => by rw [List.drop_of_length_le (by omega)]; rfl
  | n + 1, j, s, h => by
    have hj : j < a.length := by omega
    rw [List.drop_eq_getElem_cons hj]
    show F (j : Int) s _ = f (j : Int) a[j] s _
    rw [hF j s _ hj, List.getD_eq_getElem?_getD, List.getElem?_eq_getElem hj]
    show f (j : Int) a[j] s _ = _
    congr 1
    funext s'
    exact iter_foldI hF n (j + 1) s' (by omega)
theorem loop_l {α σ ρ : Type} {a : List α} {d : α} (hb : a.length ≤ big) {L : Nat → Int → σ → Option ρ} {f : Int → α → σ → (σ → Option ρ) → Option ρ} {e : σ → Option ρ}
    (h : ∀ m i s, L (m + 1) i s = cond (decide (i < (a.length : Int))) (cond (inRange i a.length) (f i (a.getD i.toNat d) s (fun s' => L m (IntKind.wrap .i64 (i + 1)) s')) none) (e s)) {n : Nat} {s : σ} (hn : a.length < n) : L n 0 s = foldI f e 0 a s := by
  rw [loop_n (F := fun i s c => cond (inRange i a.length) (f i (a.getD i.toNat d) s c) none) hb h hn]
  have := iter_foldI (d := d) (f := f) (F := fun i s c => cond (inRange i a.length) (f i (a.getD i.toNat d) s c) none) (e := e) (a := a) (fun j s c hj => by
    rw [inRange_nat]
    simp [hj]) a.length 0 s (by omega)
  rw [this, List.drop_zero]
/-- A loop that counts from 0 to len. -/
theorem raw_run {σ ρ : Type} {L : Nat → Int → σ → Option ρ} {R : Int → σ → (Int → σ → Option ρ) → Option ρ} (hL : ∀ m i s, L (m + 1) i s = R i s (L m)) (len : Nat) (I : Nat → σ → Prop) (Res : Nat → σ → Option ρ)
    (h1 : ∀ j s c, j < len → I j s → (∀ s', I (j + 1) s' → c ((j + 1 : Nat) : Int) s' = Res (j + 1) s') → R (j : Int) s c = Res j s) (h2 : ∀ s c, I len s → R (len : Int) s c = Res len s) :
    ∀ (d n j : Nat) (s : σ), d + j = len → d < n → I j s → L n (j : Int) s = Res j s
  | 0, 0, _, _, _, hn, _ => by omega
  | _ + 1, 0, _, _, _, hn, _ => by omega
  | 0, n + 1, j, s, hd, _, hI => by
    have : j = len := by omega
    subst this
    rw [hL]
    exact h2 s _ hI
  | d + 1, n + 1, j, s, hd, hn, hI => by
    rw [hL]
    exact h1 j s _ (by omega) hI (fun s' hI' => raw_run hL len I Res h1 h2 d n (j + 1) s' (by omega) (by omega) hI')
theorem raw_run0 {σ ρ : Type} {L : Nat → Int → σ → Option ρ} {R : Int → σ → (Int → σ → Option ρ) → Option ρ} (hL : ∀ m i s, L (m + 1) i s = R i s (L m)) (len : Nat) (I : Nat → σ → Prop) (Res : Nat → σ → Option ρ)
    (h1 : ∀ j s c, j < len → I j s → (∀ s', I (j + 1) s' → c ((j + 1 : Nat) : Int) s' = Res (j + 1) s') → R (j : Int) s c = Res j s) (h2 : ∀ s c, I len s → R (len : Int) s c = Res len s) {n : Nat} {s : σ} (hn : len < n) (hI : I 0 s) : L n 0 s = Res 0 s :=
  raw_run hL len I Res h1 h2 len n 0 s (by omega) hn hI
theorem drop_cons {α : Type} {a : List α} {j : Nat} (d : α) (h : j < a.length) : a.drop j = a.getD j d :: a.drop (j + 1) := by
  rw [List.drop_eq_getElem_cons h, List.getD_eq_getElem?_getD, List.getElem?_eq_getElem h]
  rfl
theorem raw_filter {α β ρ : Type} {a : List α} (d : α) (h : α → Option β) (N : Nat) {k : List β → Option ρ} {L : Nat → Int → List β → Option ρ} {R : Int → List β → (Int → List β → Option ρ) → Option ρ} (hL : ∀ m i s, L (m + 1) i s = R i s (L m))
    (h1 : ∀ j out c, j < a.length → out.length + 1 ≤ N → R (j : Int) out c = c ((j + 1 : Nat) : Int) (match h (a.getD j d) with | some y => out ++ [y] | none => out)) (h2 : ∀ out c, R (a.length : Int) out c = k out) (hN : a.length ≤ N) {n : Nat} (hn : a.length < n) : L n 0 [] = k (a.filterMap h) := by
  have := raw_run0 hL a.length (fun j out => out.length + (a.length - j) ≤ N) (fun j out => k (out ++ (a.drop j).filterMap h)) (fun j out c hj hI hc => by
    rw [h1 j out c hj (by omega), drop_cons d hj, List.filterMap_cons]
    cases h (a.getD j d) with
    | none => exact hc out (by omega)
    | some y =>
      show c _ (out ++ [y]) = _
      rw [hc _ (by rw [List.length_append]; simp; omega)]
      simp) (fun out c hI => by rw [h2, List.drop_length]; simp) hn (s := []) (by simp; omega)
  rw [this]
  simp
theorem raw_copy {α β ρ : Type} {a : List α} (d : α) (z : β) (h : α → β) {k : List β → Option ρ} {L : Nat → Int → List β → Option ρ} {R : Int → List β → (Int → List β → Option ρ) → Option ρ} (hL : ∀ m i s, L (m + 1) i s = R i s (L m))
    (h1 : ∀ j out c, j < a.length → out.length = a.length → R (j : Int) out c = c ((j + 1 : Nat) : Int) (out.set j (h (a.getD j d)))) (h2 : ∀ s c, R (a.length : Int) s c = k s) {n : Nat} (hn : a.length < n) : L n 0 (List.replicate (Int.toNat (a.length : Int)) z) = k (a.map h) := by
  have := raw_run0 hL a.length (fun j out => out.length = a.length ∧ out.take j = (a.take j).map h) (fun j out => k (a.map h)) (fun j out c hj hi hc => by
    rw [h1 j out c hj hi.1]
    refine hc _ ⟨by rw [List.length_set]; exact hi.1, ?_⟩
    have e1 : a.getD j d = a[j] := by rw [List.getD_eq_getElem?_getD, List.getElem?_eq_getElem hj]; rfl
    rw [List.take_succ_eq_append_getElem (by rw [List.length_set]; omega), List.take_succ_eq_append_getElem hj, List.map_append, ← hi.2, e1, List.getElem_set_self]
    congr 1
    rw [List.take_set_of_le (Nat.le_refl j)]) (fun out c hi => by
    rw [h2]
    have h3 := hi.2
    rw [List.take_of_length_le (by omega), List.take_length] at h3
    rw [h3]) hn (s := List.replicate (Int.toNat (a.length : Int)) z) ⟨by simp, by simp⟩
  exact this
theorem getD_mem {α : Type} {a : List α} {j : Nat} {d : α} (h : j < a.length) : a.getD j d ∈ a := by
  rw [List.getD_eq_getElem?_getD, List.getElem?_eq_getElem h]
  exact List.getElem_mem h
end Go.Proofs.Ytcmjbplnjjdcdaa.Ref

namespace Go.Proofs.Ytcmjbplnjjdcdaa.Ref
open Go.RowKit Go.Proofs.YtcmjbplnjjdcdaaW.PrintWords Go.Proofs.YtcmjbplnjjdcdaaW.PrintLast

abbrev TSig := Int × Int
abbrev TKeys := List Int × Int
abbrev TEntry := ByteArray × (Int × (Int × List ByteArray))
abbrev TProof := Int × List Int
abbrev TGap := Int × (TEntry × (TEntry × (TProof × TProof)))
abbrev THead := Int × (Int × (Int × (Int × (Int × (Int × (Int × (Int × (TKeys × (TKeys × (Int × (TKeys × Bool)))))))))))
abbrev TSigned := THead × List TSig
def wsum {α : Type} (wt : α → Nat) : List α → Nat
  | [] => 0
  | x :: xs => wt x + wsum wt xs
def wP (p : List ByteArray) : Nat := p.length + wsum ByteArray.size p
def wE (e : TEntry) : Nat := e.1.size + wP e.2.2.2
def wEs (l : List TEntry) : Nat := l.length + wsum wE l
theorem wsum_mem {α : Type} {wt : α → Nat} {x : α} {xs : List α} (h : x ∈ xs) : wt x ≤ wsum wt xs := by
  induction xs with
  | nil => cases h
  | cons y ys ih =>
    rcases List.mem_cons.1 h with rfl | h
    · unfold wsum; omega
    · have := ih h
      unfold wsum; omega
/-- What is left, or -1. -/
def sub1 (w : Nat) (left : Int) : Int := if (w : Int) ≤ left then left - w else -1
theorem sub1_neg {w : Nat} {left : Int} (h0 : 0 ≤ left) : (sub1 w left < 0) ↔ left < (w : Int) := by
  unfold sub1; split <;> omega
theorem sub1_pos {w : Nat} {left : Int} (h : (w : Int) ≤ left) : sub1 w left = left - w := by
  unfold sub1; rw [if_pos h]
theorem sub1_range {w : Nat} {left : Int} (h0 : 0 ≤ left) (h1 : left ≤ 1048576) : ¬ sub1 w left < 0 → 0 ≤ sub1 w left ∧ sub1 w left ≤ 1048576 ∧ w ≤ 1048576 := by
  unfold sub1; split <;> omega
theorem sub1_add {w v : Nat} {left : Int} (h0 : 0 ≤ left) : sub1 (w + v) left = if sub1 w left < 0 then -1 else sub1 v (sub1 w left) := by
  unfold sub1; repeat' split
  all_goals omega
abbrev gL (left : Int) : Bool := decide (0 ≤ left) && decide (left ≤ 1048576)
theorem gL_of {w : Nat} {left : Int} (g : gL left = true) (h : ¬ sub1 w left < 0) : gL (sub1 w left) = true := by
  simp only [gL, Bool.and_eq_true, decide_eq_true_eq] at g ⊢
  have := sub1_range g.1 g.2 h
  exact ⟨this.1, this.2.1⟩
theorem sz_last {ρ : Type} {k : Int → Option ρ} {w : Nat} {left : Int} : cond (decide (sub1 w left < 0)) (k (-1)) (k (sub1 w left)) = k (sub1 w left) := by
  by_cases h : sub1 w left < 0
  · have : sub1 w left = -1 := by
      unfold sub1 at h ⊢
      split at h
      · omega
      · rw [if_neg (by assumption)]
    simp [this]
  · simp [h]
theorem wrap_sub {a b : Int} (h0 : 0 ≤ a) (h1 : a ≤ 1048576) (h2 : 0 ≤ b) (h3 : b ≤ 9223372036854775807) : IntKind.wrap .i64 (a - b) = a - b := wrap_id (by omega) (by omega)
/-- The first step of a count: a length is taken off. -/
theorem sz_first {ρ : Type} {k : Int → Option ρ} {w v : Nat} {left : Int} (g : gL left = true) (hw : w ≤ 9223372036854775807) {c : Int → Option ρ} (hc : gL (sub1 w left) = true → c (sub1 w left) = k (sub1 v (sub1 w left))) :
    cond (decide (IntKind.wrap .i64 (left - (w : Int)) < 0)) (k (-1)) (c (IntKind.wrap .i64 (left - (w : Int)))) = k (sub1 (w + v) left) := by
  have g' : 0 ≤ left ∧ left ≤ 1048576 := by simpa only [gL, Bool.and_eq_true, decide_eq_true_eq] using g
  rw [wrap_sub g'.1 g'.2 (by omega) (by omega)]
  by_cases h : left < (w : Int)
  · have e1 : decide (left - (w : Int) < 0) = true := by simp; omega
    have e2 : sub1 (w + v) left = -1 := by unfold sub1; rw [if_neg (by omega)]
    rw [e1, e2]
    rfl
  · have e1 : decide (left - (w : Int) < 0) = false := by simp; omega
    have e2 : sub1 w left = left - w := sub1_pos (by omega)
    have e3 : ¬ sub1 w left < 0 := by omega
    rw [e1, sub1_add g'.1, if_neg e3, ← e2]
    exact hc (gL_of g e3)
theorem foldI_sz {α ρ : Type} {f : Int → α → Int → (Int → Option ρ) → Option ρ} {e : Int → Option ρ} {k : Int → Option ρ} {wt : α → Nat} (I : α → Prop) (hf : ∀ i x s c, I x → 0 ≤ s → s ≤ 1048576 → f i x s c = cond (decide (s < (wt x : Int))) (k (-1)) (c (s - wt x))) (he : ∀ s, e s = k s) :
    ∀ (xs : List α) (j : Nat) (s : Int), (∀ x ∈ xs, I x) → 0 ≤ s → s ≤ 1048576 → foldI f e j xs s = k (sub1 (wsum wt xs) s)
  | [], _, s, _, h0, _ => by
    show e s = _
    rw [he]
    unfold wsum sub1
    rw [if_pos (by omega)]
    congr 1
    omega
  | x :: xs, j, s, hI, h0, h1 => by
    show f (j : Int) x s _ = _
    rw [hf _ x s _ (hI x (List.mem_cons_self ..)) h0 h1]
    by_cases hlt : s < (wt x : Int)
    · have : sub1 (wsum wt (x :: xs)) s = -1 := by unfold wsum sub1; rw [if_neg (by omega)]
      simp [hlt, this]
    · have hr := foldI_sz I hf he xs (j + 1) (s - wt x) (fun y hy => hI y (List.mem_cons_of_mem _ hy)) (by omega) (by omega)
      simp only [hlt, decide_false, cond_false, hr]
      congr 1
      show sub1 (wsum wt xs) (s - wt x) = sub1 (wt x + wsum wt xs) s
      generalize wsum wt xs = u
      unfold sub1
      repeat' split
      all_goals omega

def eqStr (a b : ByteArray) : Bool := a.toList == b.toList
abbrev eqInts (a b : List Int) : Bool := eqL (fun x y => x == y) 0 a b
abbrev eqStrs (a b : List ByteArray) : Bool := eqL eqStr ByteArray.empty a b
def eqSig (a b : TSig) : Bool := a.1 == b.1 && a.2 == b.2
abbrev eqSigs (a b : List TSig) : Bool := eqL eqSig (0, 0) a b
def eqKeys (a b : TKeys) : Bool := eqInts a.1 b.1 && a.2 == b.2
def eqEntry (a b : TEntry) : Bool := eqStr a.1 b.1 && (a.2.1 == b.2.1 && (a.2.2.1 == b.2.2.1 && eqStrs a.2.2.2 b.2.2.2))
abbrev eqEntries (a b : List TEntry) : Bool := eqL eqEntry (ByteArray.empty, (0, (0, []))) a b
def eqProof (a b : TProof) : Bool := a.1 == b.1 && eqInts a.2 b.2
def eqGap (a b : TGap) : Bool := a.1 == b.1 && (eqEntry a.2.1 b.2.1 && (eqEntry a.2.2.1 b.2.2.1 && (eqProof a.2.2.2.1 b.2.2.2.1 && eqProof a.2.2.2.2 b.2.2.2.2)))
def eqHead (a b : THead) : Bool := a.1 == b.1 && (a.2.1 == b.2.1 && (a.2.2.1 == b.2.2.1 && (a.2.2.2.1 == b.2.2.2.1 && (a.2.2.2.2.1 == b.2.2.2.2.1 && (a.2.2.2.2.2.1 == b.2.2.2.2.2.1 && (a.2.2.2.2.2.2.1 == b.2.2.2.2.2.2.1 && (a.2.2.2.2.2.2.2.1 == b.2.2.2.2.2.2.2.1 &&
  (eqKeys a.2.2.2.2.2.2.2.2.1 b.2.2.2.2.2.2.2.2.1 && (eqKeys a.2.2.2.2.2.2.2.2.2.1 b.2.2.2.2.2.2.2.2.2.1 && (a.2.2.2.2.2.2.2.2.2.2.1 == b.2.2.2.2.2.2.2.2.2.2.1 && (eqKeys a.2.2.2.2.2.2.2.2.2.2.2.1 b.2.2.2.2.2.2.2.2.2.2.2.1 && a.2.2.2.2.2.2.2.2.2.2.2.2 == b.2.2.2.2.2.2.2.2.2.2.2.2)))))))))))
def eqSigned (a b : TSigned) : Bool := eqHead a.1 b.1 && eqSigs a.2 b.2
theorem eqStr_refl (a : ByteArray) : eqStr a a = true := by unfold eqStr; simp
theorem eqInts_refl (a : List Int) : eqInts a a = true := eqL_refl (fun x => by simp) a
theorem eqStrs_refl (a : List ByteArray) : eqStrs a a = true := eqL_refl eqStr_refl a
theorem eqSig_refl (a : TSig) : eqSig a a = true := by unfold eqSig; simp
theorem eqSigs_refl (a : List TSig) : eqSigs a a = true := eqL_refl eqSig_refl a
theorem eqKeys_refl (a : TKeys) : eqKeys a a = true := by unfold eqKeys; rw [eqInts_refl]; simp
theorem eqEntry_refl (a : TEntry) : eqEntry a a = true := by unfold eqEntry; rw [eqStr_refl, eqStrs_refl]; simp
theorem eqEntries_refl (a : List TEntry) : eqEntries a a = true := eqL_refl eqEntry_refl a
theorem eqProof_refl (a : TProof) : eqProof a a = true := by unfold eqProof; rw [eqInts_refl]; simp
theorem eqGap_refl (a : TGap) : eqGap a a = true := by unfold eqGap; rw [eqEntry_refl, eqEntry_refl, eqProof_refl, eqProof_refl]; simp
theorem eqHead_refl (a : THead) : eqHead a a = true := by unfold eqHead; rw [eqKeys_refl, eqKeys_refl, eqKeys_refl]; simp
theorem eqSigned_refl (a : TSigned) : eqSigned a a = true := by unfold eqSigned; rw [eqHead_refl, eqSigs_refl]; simp
theorem eqSignedS_refl {d : TSigned} (a : List TSigned) : eqL eqSigned d a a = true := eqL_refl eqSigned_refl a
/-- The comparison of two lists, as it stands in the code. -/
theorem eq_all {α ρ : Type} {p : α → α → Bool} {d : α} {k : Bool → Option ρ} {a b : List α} (hb : a.length ≤ big) {L : Nat → Int → Option ρ}
    (h : ∀ m i, L (m + 1) i = cond (decide (i < (a.length : Int))) (cond (inRange i a.length) (cond (inRange i b.length) (cond (!(p (a.getD i.toNat d) (b.getD i.toNat d))) (k false) (L m (IntKind.wrap .i64 (i + 1)))) none) none) (k true))
    {n : Nat} (hn : a.length < n) : cond ((a.length : Int) != (b.length : Int)) (k false) (L n 0) = k (eqL p d a b) := by
  by_cases hab : a.length = b.length
  · have h1 : ((a.length : Int) != (b.length : Int)) = false := by simp [hab]
    rw [h1]
    exact loop_eqL hab hb h hn
  · have h1 : ((a.length : Int) != (b.length : Int)) = true := by
      simp
      omega
    have h2 : (a.length == b.length) = false := by simp [hab]
    rw [h1]
    unfold eqL
    rw [h2]
    rfl

def inR (n lo hi : Int) : Bool := decide (lo ≤ n) && decide (n ≤ hi)
def modM (n m : Int) : Int := cond (inR m 1 1000000000000) (Int.tmod (IntKind.wrap .i64 (Int.tmod n m + m)) m) 0
def hashStep (acc v : Int) : Int := Int.tmod (IntKind.wrap .i64 (IntKind.wrap .i64 (IntKind.wrap .i64 (acc * 1000003) + modM v 2147483647) + 13)) 2147483647
def hash (l : List Int) : Int := l.foldl hashStep 11
def nodeOf (a b : Int) : Int := hash [229, a, b]
def up : List Int → List Int
  | [] => []
  | [x] => [x]
  | x :: y :: r => nodeOf x y :: up r
def isLetter (c : Int) : Bool := (decide (97 ≤ c) && decide (c ≤ 122)) || (decide (48 ≤ c) && decide (c ≤ 57))
def okByte (s : ByteArray) (j : Nat) : Bool := isLetter (bt s (j : Int)) || (bt s (j : Int) == 45 && (decide (0 < j) && decide (j + 1 < s.size)))
/-- n bytes from place j on are letters, digits or, inside, a dash. -/
def labelBytes (s : ByteArray) : Nat → Nat → Bool
  | 0, _ => true
  | n + 1, j => okByte s j && labelBytes s n (j + 1)
def isLabel (s : ByteArray) : Bool := inR s.size 1 8 && labelBytes s s.size 0
def isPath (p : List ByteArray) : Bool := inR p.length 1 4 && p.all isLabel
def cmpStr (a b : ByteArray) : Int := cond (Op.bytesLess a.toList b.toList) (-1) (cond (a.toList == b.toList) 0 1)
theorem labelBytes_iff {s : ByteArray} : ∀ (n j : Nat), labelBytes s n j = true ↔ ∀ i, j ≤ i → i < j + n → okByte s i = true
  | 0, j => ⟨fun _ i h1 h2 => by omega, fun _ => rfl⟩
  | n + 1, j => by
    unfold labelBytes
    rw [Bool.and_eq_true, labelBytes_iff n (j + 1)]
    constructor
    · rintro ⟨h1, h2⟩ i h3 h4
      by_cases e : i = j
      · subst e; exact h1
      · exact h2 i (by omega) (by omega)
    · intro h
      exact ⟨h j (Nat.le_refl j) (by omega), fun i h3 h4 => h i (by omega) (by omega)⟩

/-- n bytes from place j on are letters, digits or dashes. -/
def charsFrom (s : ByteArray) : Nat → Nat → Bool
  | 0, _ => true
  | n + 1, j => (isLetter (bt s (j : Int)) || bt s (j : Int) == 45) && charsFrom s n (j + 1)
theorem charsFrom_iff {s : ByteArray} : ∀ (n j : Nat), charsFrom s n j = true ↔ ∀ i, j ≤ i → i < j + n → (isLetter (bt s (i : Int)) || bt s (i : Int) == 45) = true
  | 0, j => ⟨fun _ i h1 h2 => by omega, fun _ => rfl⟩
  | n + 1, j => by
    unfold charsFrom
    rw [Bool.and_eq_true, charsFrom_iff n (j + 1)]
    constructor
    · rintro ⟨h1, h2⟩ i h3 h4
      by_cases e : i = j
      · subst e; exact h1
      · exact h2 i (by omega) (by omega)
    · intro h
      exact ⟨h j (Nat.le_refl j) (by omega), fun i h3 h4 => h i (by omega) (by omega)⟩
theorem letter_dash {c : Int} (h : (c == 45) = true) : isLetter c = false := by
  have : c = 45 := by simpa using h
  subst this
  decide
theorem label_edges (s : ByteArray) (h : 1 ≤ s.size) : labelBytes s s.size 0 = (!(bt s 0 == 45) && (!(bt s ((s.size - 1 : Nat) : Int) == 45) && charsFrom s s.size 0)) := by
  apply Bool.eq_iff_iff.2
  simp only [Bool.and_eq_true, Bool.not_eq_true', labelBytes_iff, charsFrom_iff]
  constructor
  · intro h1
    refine ⟨?_, ?_, fun i h2 h3 => ?_⟩
    · cases e : bt s 0 == 45 with
      | false => rfl
      | true =>
        have := h1 0 (Nat.le_refl 0) (by omega)
        unfold okByte at this
        rw [show ((0 : Nat) : Int) = 0 from rfl, letter_dash e, e] at this
        simp at this
    · cases e : bt s ((s.size - 1 : Nat) : Int) == 45 with
      | false => rfl
      | true =>
        have := h1 (s.size - 1) (Nat.zero_le _) (by omega)
        unfold okByte at this
        rw [letter_dash e, e] at this
        simp at this
        omega
    · have := h1 i h2 h3
      unfold okByte at this
      revert this
      cases isLetter (bt s (i : Int)) <;> cases bt s (i : Int) == 45 <;> simp
  · rintro ⟨h1, h2, h3⟩ i h4 h5
    have h6 := h3 i h4 h5
    unfold okByte
    cases e : bt s (i : Int) == 45 with
    | false =>
      rw [e, Bool.or_false] at h6
      rw [h6]; rfl
    | true =>
      have h7 : i ≠ 0 := by rintro rfl; rw [show ((0 : Nat) : Int) = 0 from rfl, h1] at e; cases e
      have h8 : i ≠ s.size - 1 := by rintro rfl; rw [h2] at e; cases e
      have h9 : decide (0 < i) = true := by simp; omega
      have h10 : decide (i + 1 < s.size) = true := by simp; omega
      rw [h9, h10]
      simp
theorem char_spec {ρ : Type} (k : Bool → Option ρ) (b : Int) (r : Bool) :
    (cond (decide (b < 97)) (cond (decide (b < 48)) (cond (b != 45) (k false) (k r)) (cond (decide (b > 57)) (cond (b != 45) (k false) (k r)) (k r)))
      (cond (decide (b > 122)) (cond (decide (b < 48)) (cond (b != 45) (k false) (k r)) (cond (decide (b > 57)) (cond (b != 45) (k false) (k r)) (k r))) (k r))) = k ((isLetter b || b == 45) && r) := by
  have e1 : decide (b < 97) = !decide (97 ≤ b) := by rw [← decide_not]; simp
  have e2 : decide (b < 48) = !decide (48 ≤ b) := by rw [← decide_not]; simp
  have e3 : decide (b > 57) = !decide (b ≤ 57) := by rw [← decide_not]; simp
  have e4 : decide (b > 122) = !decide (b ≤ 122) := by rw [← decide_not]; simp
  rw [e1, e2, e3, e4]
  unfold isLetter bne
  cases decide (97 ≤ b) <;> cases decide (b ≤ 122) <;> cases decide (48 ≤ b) <;> cases decide (b ≤ 57) <;> cases b == 45 <;> cases r <;> rfl

def isDigest (n : Int) : Bool := inR n 0 2147483646
def isEntry (e : TEntry) : Bool := isLabel e.1 && ((e.2.1 == 1 && (inR e.2.2.1 0 999999 && (e.2.2.2.length : Int) == 0)) || ((e.2.1 == 2 && (isDigest e.2.2.1 && (e.2.2.2.length : Int) == 0)) || (e.2.1 == 3 && (isDigest e.2.2.1 && isPath e.2.2.2))))
def rankOf (l : List TEntry) (s : ByteArray) : Int := l.foldl (fun n e => cond (decide (cmpStr e.1 s < 0)) (IntKind.wrap .i64 (n + 1)) n) 0
abbrev gS (s : ByteArray) : Bool := decide (s.size ≤ 1048576)
abbrev bS (s : ByteArray) : Bool := decide (s.size ≤ 9223372036854775807)
abbrev bP (p : List ByteArray) : Bool := p.all bS
abbrev bE (e : TEntry) : Bool := bS e.1 && bP e.2.2.2
abbrev okPth (p : List ByteArray) : Prop := p.length ≤ maxLen ∧ ∀ y, List.Mem y p → y.size ≤ maxLen
abbrev okE (e : TEntry) : Prop := e.1.size ≤ maxLen ∧ ((Lit.int .i64 e.2.1).wf = true ∧ ((Lit.int .i64 e.2.2.1).wf = true ∧ okPth e.2.2.2))
abbrev okEs (l : List TEntry) : Prop := l.length ≤ maxLen ∧ ∀ y, List.Mem y l → okE y
theorem maxLen_is : maxLen = 9223372036854775807 := by decide
theorem bS_of {s : ByteArray} (h : s.size ≤ maxLen) : bS s = true := by rw [maxLen_is] at h; simpa using h
theorem bP_of {p : List ByteArray} (h : okPth p) : bP p = true := List.all_eq_true.2 (fun s hs => bS_of (h.2 s hs))
theorem bE_of {e : TEntry} (h : okE e) : bE e = true := by
  unfold bE
  rw [bS_of h.1, bP_of h.2.2.2]
  rfl
theorem bEs_of {l : List TEntry} (h : okEs l) : l.all bE = true := List.all_eq_true.2 (fun e he => bE_of (h.2 e he))
theorem wEs_mem {l : List TEntry} {e : TEntry} (h : e ∈ l) : wE e ≤ wEs l := by
  have := wsum_mem (wt := wE) h
  unfold wEs; omega
end Go.Proofs.Ytcmjbplnjjdcdaa.Ref

namespace Go.Proofs.Ytcmjbplnjjdcdaa.Ref
open Go.RowKit Go.Proofs.YtcmjbplnjjdcdaaW.PrintWords Go.Proofs.YtcmjbplnjjdcdaaW.PrintLast

/-- The number behind n marks. -/
def upG (s : Int → Int) : Int → Nat → Int
  | k, 0 => k
  | k, n + 1 => upG s (s k) n
/-- n marks. -/
def mkG {α : Type} (v : Int → α) (s : Int → Int) : Int → Nat → List α
  | _, 0 => []
  | k, n + 1 => v k :: mkG v s (s k) n
/-- The number behind the marks that are found; -1 where another thing stands. -/
def heldG {α : Type} (c : α → Int → Bool) (s : Int → Int) : List α → Int → Int
  | [], k => k
  | a :: l, k => cond (c a k) (heldG c s l (s k)) (-1)
theorem held_mk {α : Type} {v : Int → α} {c : α → Int → Bool} {s : Int → Int} (hc : ∀ k, c (v k) k = true) : ∀ (n : Nat) (k : Int), heldG c s (mkG v s k n) k = upG s k n
  | 0, _ => rfl
  | n + 1, k => by
    show cond (c (v k) k) (heldG c s (mkG v s (s k) n) (s k)) (-1) = upG s (s k) n
    rw [hc, cond_true, held_mk hc n]
def s1 (k : Int) : Int := IntKind.wrap .i64 (k + 1)
def s2 (k : Int) : Int := IntKind.wrap .i64 (IntKind.wrap .i64 (k + 1) + 1)
theorem up1_le : ∀ (n : Nat) (k : Int), 0 ≤ k → k + n ≤ 4611686018427387904 → upG s1 k n = k + n
  | 0, k, _, _ => by simp [upG]
  | n + 1, k, h0, h1 => by
    have e : s1 k = k + 1 := wrap_id (by omega) (by omega)
    show upG s1 (s1 k) n = _
    rw [e, up1_le n (k + 1) (by omega) (by omega)]
    omega
theorem set_mid {α : Type} (p : List α) (b x : α) (q : List α) : (p ++ b :: q).set p.length x = (p ++ [x]) ++ q := by
  rw [List.set_append_right _ _ (Nat.le_refl _)]
  simp
theorem raw_mark {α ρ : Type} {v : Int → α} {s : Int → Int} {K : Int → List α → Option ρ} {L : Nat → Int → Int → List α → Option ρ} {l : List α} (hl : l.length ≤ big)
    (h1 : ∀ m k j (p : List α), p.length = l.length → j < p.length → L (m + 1) k (j : Int) p = L m (s k) ((j + 1 : Nat) : Int) (p.set j (v k))) (h2 : ∀ m k (p : List α), p.length = l.length → L (m + 1) k (l.length : Int) p = K k p)
    {n : Nat} {k : Int} (hn : l.length < n) : L n k 0 l = K (upG s k l.length) (mkG v s k l.length) := by
  have go : ∀ (q p : List α) (n : Nat) (k : Int), p.length + q.length = l.length → q.length < n → L n k (p.length : Int) (p ++ q) = K (upG s k q.length) (p ++ mkG v s k q.length) := by
    intro q
    induction q with
    | nil =>
      intro p n k he hn
      cases n with
      | zero => exact absurd hn (Nat.not_lt_zero _)
      | succ n =>
        rw [List.append_nil, show (p.length : Int) = (l.length : Int) by simp at he; omega, h2 _ _ _ (by simpa using he)]
        simp [upG, mkG]
    | cons b q ih =>
      intro p n k he hn
      cases n with
      | zero => exact absurd hn (Nat.not_lt_zero _)
      | succ n =>
        have he' : p.length + (q.length + 1) = l.length := by simpa using he
        rw [h1 n k p.length (p ++ b :: q) (by simpa using he) (by simp), set_mid]
        have := ih (p ++ [v k]) n (s k) (by simp; omega) (by simp at hn; omega)
        rw [show ((p.length + 1 : Nat) : Int) = ((p ++ [v k]).length : Int) by simp, this]
        simp [upG, mkG]
  have := go l [] n k (by simp) hn
  simpa using this
theorem raw_held {α ρ : Type} {c : α → Int → Bool} {s : Int → Int} {K : Int → Option ρ} {L : Nat → Int → Int → Option ρ} {l : List α} (d : α) (hl : l.length ≤ big)
    (h1 : ∀ m k j, j < l.length → L (m + 1) k (j : Int) = cond (c (l.getD j d) k) (L m (s k) ((j + 1 : Nat) : Int)) (K (-1))) (h2 : ∀ m k, L (m + 1) k (l.length : Int) = K k)
    {n : Nat} {k : Int} (hn : l.length < n) : L n k 0 = K (heldG c s l k) := by
  have go : ∀ (q p : List α) (n : Nat) (k : Int), p ++ q = l → q.length < n → L n k (p.length : Int) = K (heldG c s q k) := by
    intro q
    induction q with
    | nil =>
      intro p n k he hn
      cases n with
      | zero => exact absurd hn (Nat.not_lt_zero _)
      | succ n =>
        have : p = l := by simpa using he
        rw [this, h2]
        rfl
    | cons b q ih =>
      intro p n k he hn
      cases n with
      | zero => exact absurd hn (Nat.not_lt_zero _)
      | succ n =>
        have hlt : p.length < l.length := by rw [← he]; simp
        have hb : l.getD p.length d = b := by rw [← he]; simp [List.getD_eq_getElem?_getD]
        rw [h1 n k p.length hlt, hb]
        cases hc : c b k with
        | false => simp [heldG, hc]
        | true =>
          have := ih (p ++ [b]) n (s k) (by rw [← he]; simp) (by simp at hn; omega)
          rw [show ((p.length + 1 : Nat) : Int) = ((p ++ [b]).length : Int) by simp, cond_true, this]
          simp [heldG, hc]
  have := go l [] n k (by simp) hn
  simpa using this
def upI (k : Int) (n : Nat) : Int := upG s1 k n
theorem upI_le {k : Int} {n : Nat} (h0 : 0 ≤ k) (h1 : k + n ≤ 4611686018427387904) : upI k n = k + n := up1_le n k h0 h1
theorem upI_nn {k : Int} {n : Nat} (h0 : 0 ≤ k) (h1 : k + n ≤ 4611686018427387904) : decide (upI k n < 0) = false := by
  rw [upI_le h0 h1]
  exact decide_eq_false (by omega)
theorem upI1_nn {a : Nat} (h : a ≤ 1099511627776) : decide (upI 1 a < 0) = false := upI_nn (by omega) (by omega)
theorem wrap_big (n : Int) : IntKind.wrap .i64 n ≤ 9223372036854775807 := by
  have e : IntKind.wrap .i64 n = if n % 18446744073709551616 ≥ 9223372036854775808 then n % 18446744073709551616 - 18446744073709551616 else n % 18446744073709551616 := by
    unfold IntKind.wrap
    simp [IntKind.bits, IntKind.signed]
  rw [e]
  split <;> omega
def mtOne (k : Int) : ByteArray := strOfNums [IntKind.wrap .u8 (IntKind.wrap .i64 (48 + Int.tmod k 10))]
theorem mtOne_size (k : Int) : (mtOne k).size = 1 := strOfNums_size _
def mtG : Nat → Int → ByteArray → ByteArray
  | 0, _, o => o
  | f + 1, k, o => cond (decide (k > 0)) (mtG f (IntKind.wrap .i64 (Int.tdiv k 10)) (mtOne k ++ o)) o
def markTextM (k : Int) : ByteArray := cond (decide (k ≤ 0)) (ByteArray.mk #[109, 48]) (ByteArray.mk #[109] ++ mtG 25 k (ByteArray.mk #[]))
theorem raw_mt {ρ : Type} {K : ByteArray → Option ρ} {L : Nat → Int → ByteArray → Option ρ} (hL : ∀ m k o, L (m + 1) k o = cond (decide (k > 0)) (cond (decide ((mtOne k).size + o.size ≤ 9223372036854775807)) (L m (IntKind.wrap .i64 (Int.tdiv k 10)) (mtOne k ++ o)) none)
      (cond (decide ((ByteArray.mk #[109]).size + o.size ≤ 9223372036854775807)) (K (ByteArray.mk #[109] ++ o)) none)) :
    ∀ (f m : Nat) (k : Int) (o : ByteArray), k ≤ 9223372036854775807 → k < 10 ^ f → f < m → o.size + f ≤ 1000 → L m k o = K (ByteArray.mk #[109] ++ mtG f k o)
  | f, 0, k, o, _, _, hm, _ => absurd hm (Nat.not_lt_zero f)
  | 0, m + 1, k, o, hb, hk, hm, ho => by
    have h1 : decide (k > 0) = false := decide_eq_false (by simp at hk; omega)
    have h2 : decide ((ByteArray.mk #[109]).size + o.size ≤ 9223372036854775807) = true := decide_eq_true (by
      have : (ByteArray.mk #[109]).size = 1 := rfl
      omega)
    rw [hL, h1, h2]
    rfl
  | f + 1, m + 1, k, o, hb, hk, hm, ho => by
    rw [hL]
    have hs := mtOne_size k
    have h2 : decide ((ByteArray.mk #[109]).size + o.size ≤ 9223372036854775807) = true := decide_eq_true (by
      have : (ByteArray.mk #[109]).size = 1 := rfl
      omega)
    have h3 : decide ((mtOne k).size + o.size ≤ 9223372036854775807) = true := decide_eq_true (by omega)
    cases hc : decide (k > 0) with
    | false => rw [h2]; simp [mtG, hc]
    | true =>
      have hk0 : k > 0 := of_decide_eq_true hc
      have hd : Int.tdiv k 10 = k / 10 := Int.tdiv_eq_ediv_of_nonneg (by omega)
      have hw : IntKind.wrap .i64 (Int.tdiv k 10) = k / 10 := by rw [hd]; exact wrap_id (by omega) (by omega)
      have hlt : k / 10 < 10 ^ f := by
        rw [Int.pow_succ] at hk
        omega
      rw [h3]
      simp only [cond_true]
      rw [raw_mt hL f m _ _ (by rw [hw]; omega) (by rw [hw]; exact hlt) (by omega) (by rw [ByteArray.size_append]; omega)]
      simp [mtG, hc]
theorem markText_run {ρ : Type} {K : ByteArray → Option ρ} {L : Nat → Int → ByteArray → Option ρ} (hL : ∀ m k o, L (m + 1) k o = cond (decide (k > 0)) (cond (decide ((mtOne k).size + o.size ≤ 9223372036854775807)) (L m (IntKind.wrap .i64 (Int.tdiv k 10)) (mtOne k ++ o)) none)
      (cond (decide ((ByteArray.mk #[109]).size + o.size ≤ 9223372036854775807)) (K (ByteArray.mk #[109] ++ o)) none)) {n : Nat} (hn : 30 ≤ n) {k : Int} : cond (decide (k ≤ 0)) (K (ByteArray.mk #[109, 48])) (L n k (ByteArray.mk #[])) = K (markTextM k) := by
  unfold markTextM
  cases hc : decide (k ≤ 0) with
  | true => rfl
  | false =>
    simp only [cond_false]
    obtain ⟨m, rfl⟩ : ∃ m, n = m + 1 := ⟨n - 1, by omega⟩
    have hp : decide (k > 0) = true := decide_eq_true (by have := of_decide_eq_false hc; omega)
    have h3 : decide ((mtOne k).size + (ByteArray.mk #[]).size ≤ 9223372036854775807) = true := decide_eq_true (by rw [mtOne_size]; decide)
    rw [hL, hp, h3]
    simp only [cond_true]
    have hw := wrap_big (Int.tdiv k 10)
    rw [raw_mt hL 24 m _ _ hw (Int.lt_of_le_of_lt hw (by decide)) (by omega) (by rw [ByteArray.size_append, mtOne_size]; decide)]
    simp [mtG, hp]
def mkS (k : Int) (n : Nat) : List ByteArray := mkG markTextM s1 k n
def heldS (l : List ByteArray) (k : Int) : Int := heldG (fun a k => eqStr a (markTextM k)) s1 l k
theorem held_mkS (k : Int) (n : Nat) : heldS (mkS k n) k = upI k n := held_mk (c := fun a k => eqStr a (markTextM k)) (fun k => eqStr_refl _) n k
theorem wP_ge (p : List ByteArray) : p.length ≤ wP p := by unfold wP; omega
theorem wE_ge (e : TEntry) : e.2.2.2.length ≤ wE e := by have := wP_ge e.2.2.2; unfold wE; omega
theorem upG_add (s : Int → Int) : ∀ (a b : Nat) (k : Int), upG s (upG s k a) b = upG s k (a + b)
  | 0, b, k => by simp [upG]
  | a + 1, b, k => by
    rw [Nat.succ_add]
    exact upG_add s a b (s k)
theorem upI_add (k : Int) (a b : Nat) : upI (upI k a) b = upI k (a + b) := upG_add s1 a b k
/-- On, unless it is -1. -/
def thenH (h : Int) (f : Int → Int) : Int := cond (decide (h < 0)) (-1) (f h)
def upL {α : Type} (s : α → Int → Int) : List α → Int → Int
  | [], k => k
  | x :: l, k => upL s l (s x k)
def mkL {α : Type} (v : α → Int → α) (s : α → Int → Int) : List α → Int → List α
  | [], _ => []
  | x :: l, k => v x k :: mkL v s l (s x k)
theorem raw_markL {α ρ : Type} {v : α → Int → α} {s : α → Int → Int} {K : Int → List α → Option ρ} {L : Nat → Int → Int → List α → Option ρ} {l : List α} (d : α)
    (h1 : ∀ m k j (p : List α), p.length = l.length → j < p.length → L (m + 1) k (j : Int) p = L m (s (p.getD j d) k) ((j + 1 : Nat) : Int) (p.set j (v (p.getD j d) k))) (h2 : ∀ m k (p : List α), p.length = l.length → L (m + 1) k (l.length : Int) p = K k p)
    {n : Nat} {k : Int} (hn : l.length < n) : L n k 0 l = K (upL s l k) (mkL v s l k) := by
  have go : ∀ (q p : List α) (n : Nat) (k : Int), p.length + q.length = l.length → q.length < n → L n k (p.length : Int) (p ++ q) = K (upL s q k) (p ++ mkL v s q k) := by
    intro q
    induction q with
    | nil =>
      intro p n k he hn
      cases n with
      | zero => exact absurd hn (Nat.not_lt_zero _)
      | succ n =>
        rw [List.append_nil, show (p.length : Int) = (l.length : Int) by simp at he; omega, h2 _ _ _ (by simpa using he)]
        simp [upL, mkL]
    | cons b q ih =>
      intro p n k he hn
      cases n with
      | zero => exact absurd hn (Nat.not_lt_zero _)
      | succ n =>
        have he' : p.length + (q.length + 1) = l.length := by simpa using he
        have hb : (p ++ b :: q).getD p.length d = b := by simp [List.getD_eq_getElem?_getD]
        rw [h1 n k p.length (p ++ b :: q) (by simpa using he) (by simp), hb, set_mid]
        have := ih (p ++ [v b k]) n (s b k) (by simp; omega) (by simp at hn; omega)
        rw [show ((p.length + 1 : Nat) : Int) = ((p ++ [v b k]).length : Int) by simp, this]
        simp [upL, mkL]
  have := go l [] n k (by simp) hn
  simpa using this
def stE (e : TEntry) (k : Int) : Int := upI (s1 (s1 (s1 k))) e.2.2.2.length
def vE (e : TEntry) (k : Int) : TEntry := (markTextM k, (s1 k, (s1 (s1 k), mkS (s1 (s1 (s1 k))) e.2.2.2.length)))
def upE (l : List TEntry) (k : Int) : Int := upL stE l k
def mkE (l : List TEntry) (k : Int) : List TEntry := mkL vE stE l k
def cntE (l : List TEntry) : Nat := wsum (fun e => 3 + e.2.2.2.length) l
theorem upE_upI : ∀ (l : List TEntry) (k : Int), upE l k = upI k (cntE l)
  | [], k => rfl
  | e :: l, k => by
    show upE l (stE e k) = upI k ((3 + e.2.2.2.length) + cntE l)
    rw [upE_upI l, ← upI_add, ← upI_add]
    rfl
theorem cntE_le : ∀ l : List TEntry, cntE l ≤ 3 * wEs l
  | [] => Nat.zero_le _
  | e :: l => by
    have h1 := cntE_le l
    have h2 := wE_ge e
    show (3 + e.2.2.2.length) + cntE l ≤ 3 * ((l.length + 1) + (wE e + wsum wE l))
    have h3 : wEs l = l.length + wsum wE l := rfl
    omega
def hE (e : TEntry) (k : Int) (G : Int → Int) : Int := cond (eqStr e.1 (markTextM k)) (cond (e.2.1 == s1 k) (cond (e.2.2.1 == s1 (s1 k)) (thenH (heldS e.2.2.2 (s1 (s1 (s1 k)))) G) (-1)) (-1)) (-1)
theorem wEs_ge (l : List TEntry) : l.length ≤ wEs l := by
  have h : wEs l = l.length + wsum wE l := rfl
  omega
end Go.Proofs.Ytcmjbplnjjdcdaa.Ref

namespace Go.Proofs.Ytcmjbplnjjdcdaa.Ref
open Go.RowKit Go.Proofs.YtcmjbplnjjdcdaaW.PrintWords Go.Proofs.YtcmjbplnjjdcdaaW.PrintLast

end Go.Proofs.Ytcmjbplnjjdcdaa.Ref

namespace Go.Proofs.Ytcmjbplnjjdcdaa.Ref
open Go.RowKit Go.Proofs.YtcmjbplnjjdcdaaW.PrintWords Go.Proofs.YtcmjbplnjjdcdaaW.PrintLast

end Go.Proofs.Ytcmjbplnjjdcdaa.Ref

namespace Go.Proofs.Ytcmjbplnjjdcdaa.Ref
open Go.RowKit Go.Proofs.YtcmjbplnjjdcdaaW.PrintWords Go.Proofs.YtcmjbplnjjdcdaaW.PrintLast

end Go.Proofs.Ytcmjbplnjjdcdaa.Ref

namespace Go.Proofs.Ytcmjbplnjjdcdaa.Ref
open Go.RowKit Go.Proofs.YtcmjbplnjjdcdaaW.PrintWords Go.Proofs.YtcmjbplnjjdcdaaW.PrintLast

end Go.Proofs.Ytcmjbplnjjdcdaa.Ref

namespace Go.Proofs.Ytcmjbplnjjdcdaa.Ref
open Go.RowKit Go.Proofs.YtcmjbplnjjdcdaaW.PrintWords Go.Proofs.YtcmjbplnjjdcdaaW.PrintLast

abbrev at' (l : List TEntry) (j : Nat) : TEntry := l.getD j (ByteArray.empty, (0, (0, [])))
structure InOrder (l : List TEntry) : Prop where
  len : l.length ≤ 12
  entry : ∀ i, i < l.length → isEntry (at' l i) = true
  less : ∀ i j, i < j → j < l.length → Op.bytesLess (at' l i).1.toList (at' l j).1.toList = true
structure Placed (l : List TEntry) (s : ByteArray) (r : Nat) : Prop where
  rank : rankOf l s = (r : Int)
  le : r ≤ l.length
  below : ∀ j, j < r → Op.bytesLess (at' l j).1.toList s.toList = true
  above : ∀ j, r ≤ j → j < l.length → Op.bytesLess s.toList (at' l j).1.toList = true
end Go.Proofs.Ytcmjbplnjjdcdaa.Ref
