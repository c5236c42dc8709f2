/- The proof system: an abstract machine over data, and that what it computes the code computes.
   Conditions: as each theorem states. -/
import Derived.Test.YtcmjbplnjjdcdaaGreatK4
import Derived.Lib.Bytealg
set_option linter.unusedVariables false
set_option linter.unusedSimpArgs false
namespace Go.Proofs.YtcmjbplnjjdcdaaGreat.Ref
open Go.RowKit Go.Proofs.YtcmjbplnjjdcdaaGreatW.PrintWords Go.Proofs.YtcmjbplnjjdcdaaGreatW.PrintLast

theorem wrap_id {n : Int} (h0 : -9223372036854775808 ≤ n) (h1 : n < 9223372036854775808) : IntKind.wrap .i64 n = n := by
  have e : IntKind.wrap .i64 n = if n % 18446744073709551616 ≥ 9223372036854775808 then n % 18446744073709551616 - 18446744073709551616 else n % 18446744073709551616 := by
    unfold IntKind.wrap
    simp [IntKind.signed, IntKind.bits]
  rw [e]
  split <;> omega
theorem wrap_succ {j : Nat} (h : j < big) : IntKind.wrap .i64 ((j : Int) + 1) = ((j + 1 : Nat) : Int) := by
  unfold big at h
  rw [wrap_id (by omega) (by omega)]
  omega
theorem inRange_nat (j n : Nat) : inRange (j : Int) n = decide (j < n) := by
  unfold inRange
  by_cases h : j < n
  · have h1 : (j : Int) < (n : Int) := by omega
    simp [h, h1]
  · have h1 : ¬ (j : Int) < (n : Int) := by omega
    simp [h, h1]
theorem lt_nat (j n : Nat) : decide ((j : Int) < (n : Int)) = decide (j < n) := by
  by_cases h : j < n
  · have h1 : (j : Int) < (n : Int) := by omega
    simp [h, h1]
  · have h1 : ¬ (j : Int) < (n : Int) := by omega
    simp [h, h1]
/-- n rounds from number j on. -/
def iter {σ ρ : Type} (f : Nat → σ → (σ → Option ρ) → Option ρ) (e : σ → Option ρ) : Nat → Nat → σ → Option ρ
  | 0, _, s => e s
  | n + 1, j, s => f j s (iter f e n (j + 1))
theorem loop_iter {σ ρ : Type} {len : Nat} {f : Nat → σ → (σ → Option ρ) → Option ρ} {e : σ → Option ρ} {L : Nat → Int → σ → Option ρ}
    (h : ∀ m j s, j < len → L (m + 1) (j : Int) s = f j s (fun s' => L m ((j + 1 : Nat) : Int) s')) (he : ∀ m s, L (m + 1) (len : Int) s = e s) : ∀ (n j m : Nat) (s : σ), n + j = len → n < m → L m (j : Int) s = iter f e n j s
  | 0, j, 0, s, _, hm => by omega
  | 0, j, m + 1, s, hn, _ => by
    have : j = len := by omega
    subst this
    exact he m s
  | n + 1, j, 0, s, _, hm => by omega
  | n + 1, j, m + 1, s, hn, hm => by
    rw [h m j s (by omega)]
    show f j s _ = f j s _
    congr 1
    funext s'
    exact loop_iter h he n (j + 1) m s' (by omega) (by omega)
/-- Two lists, place by place. -/
def allN (q : Nat → Bool) : Nat → Nat → Bool
  | 0, _ => true
  | n + 1, j => q j && allN q n (j + 1)
def eqL {α : Type} (p : α → α → Bool) (d : α) (a b : List α) : Bool := (a.length == b.length) && allN (fun j => p (a.getD j d) (b.getD j d)) a.length 0
theorem allN_true {q : Nat → Bool} (h : ∀ j, q j = true) : ∀ n j, allN q n j = true
  | 0, _ => rfl
  | n + 1, j => by unfold allN; rw [h j, allN_true h n (j + 1)]; rfl
theorem eqL_refl {α : Type} {p : α → α → Bool} {d : α} (h : ∀ x, p x x = true) (a : List α) : eqL p d a a = true := by
  unfold eqL
  rw [allN_true (fun j => h _)]
  simp
theorem iter_all {σ ρ : Type} {q : Nat → Bool} {k : Bool → Option ρ} : ∀ (n j : Nat) (s : σ), iter (fun j s c => cond (!(q j)) (k false) (c s)) (fun _ => k true) n j s = k (allN q n j)
  | 0, _, _ => rfl
  | n + 1, j, s => by
    show cond (!(q j)) (k false) _ = k (q j && allN q n (j + 1))
    rw [iter_all n (j + 1) s]
    cases q j <;> rfl
/-- A loop that compares two lists place by place. -/
theorem loop_eqL {α ρ : Type} {p : α → α → Bool} {d : α} {k : Bool → Option ρ} {a b : List α} (hab : a.length = b.length) (hb : a.length ≤ big) {L : Nat → Int → Option ρ}
    (h : ∀ m i, L (m + 1) i = cond (decide (i < (a.length : Int))) (cond (inRange i a.length) (cond (inRange i b.length) (cond (!(p (a.getD i.toNat d) (b.getD i.toNat d))) (k false) (L m (IntKind.wrap .i64 (i + 1)))) none) none) (k true)) :
    ∀ {n : Nat}, a.length < n → L n 0 = k (eqL p d a b) := by
  intro n hn
  have h1 := loop_iter (σ := Unit) (len := a.length) (f := fun j s c => cond (!(p (a.getD j d) (b.getD j d))) (k false) (c s)) (e := fun _ => k true) (L := fun m i _ => L m i) (fun m j s hj => by
    rw [h m (j : Int), lt_nat, inRange_nat, inRange_nat, wrap_succ (by omega)]
    have h2 : decide (j < a.length) = true := by simpa using hj
    have h3 : decide (j < b.length) = true := by rw [← hab]; exact h2
    simp [h2, h3]) (fun m s => by
    rw [h m _]
    simp) a.length 0 n () (by omega) hn
  have h2 : L n 0 = _ := h1
  rw [h2, iter_all]
  have h3 : (a.length == b.length) = true := by simp [hab]
  unfold eqL
  rw [h3, Bool.true_and]
/-- The place of the first element that p holds of; -1 if there is none. -/
def idxFrom {α : Type} (p : α → Bool) : Nat → List α → Int
  | _, [] => -1
  | j, x :: xs => cond (p x) (j : Int) (idxFrom p (j + 1) xs)
/-- A loop that counts from 0 to len. -/
theorem raw_run {σ ρ : Type} {L : Nat → Int → σ → Option ρ} {R : Int → σ → (Int → σ → Option ρ) → Option ρ} (hL : ∀ m i s, L (m + 1) i s = R i s (L m)) (len : Nat) (I : Nat → σ → Prop) (Res : Nat → σ → Option ρ)
    (h1 : ∀ j s c, j < len → I j s → (∀ s', I (j + 1) s' → c ((j + 1 : Nat) : Int) s' = Res (j + 1) s') → R (j : Int) s c = Res j s) (h2 : ∀ s c, I len s → R (len : Int) s c = Res len s) :
    ∀ (d n j : Nat) (s : σ), d + j = len → d < n → I j s → L n (j : Int) s = Res j s
  | 0, 0, _, _, _, hn, _ => by omega
  | _ + 1, 0, _, _, _, hn, _ => by omega
  | 0, n + 1, j, s, hd, _, hI => by
    have : j = len := by omega
    subst this
    rw [hL]
    exact h2 s _ hI
  | d + 1, n + 1, j, s, hd, hn, hI => by
    rw [hL]
    exact h1 j s _ (by omega) hI (fun s' hI' => raw_run hL len I Res h1 h2 d n (j + 1) s' (by omega) (by omega) hI')
theorem raw_run0 {σ ρ : Type} {L : Nat → Int → σ → Option ρ} {R : Int → σ → (Int → σ → Option ρ) → Option ρ} (hL : ∀ m i s, L (m + 1) i s = R i s (L m)) (len : Nat) (I : Nat → σ → Prop) (Res : Nat → σ → Option ρ)
    (h1 : ∀ j s c, j < len → I j s → (∀ s', I (j + 1) s' → c ((j + 1 : Nat) : Int) s' = Res (j + 1) s') → R (j : Int) s c = Res j s) (h2 : ∀ s c, I len s → R (len : Int) s c = Res len s) {n : Nat} {s : σ} (hn : len < n) (hI : I 0 s) : L n 0 s = Res 0 s :=
  raw_run hL len I Res h1 h2 len n 0 s (by omega) hn hI
theorem drop_cons {α : Type} {a : List α} {j : Nat} (d : α) (h : j < a.length) : a.drop j = a.getD j d :: a.drop (j + 1) := by
  rw [List.drop_eq_getElem_cons h, List.getD_eq_getElem?_getD, List.getElem?_eq_getElem h]
  rfl
/-- Mapped, one behind the other. -/
theorem raw_map {α β ρ : Type} {a : List α} (d : α) (h : α → β) (N : Nat) {k : List β → Option ρ} {L : Nat → Int → List β → Option ρ} {R : Int → List β → (Int → List β → Option ρ) → Option ρ} (hL : ∀ m i s, L (m + 1) i s = R i s (L m))
    (h1 : ∀ j out c, j < a.length → out.length + 1 ≤ N → R (j : Int) out c = c ((j + 1 : Nat) : Int) (out ++ [h (a.getD j d)])) (h2 : ∀ out c, R (a.length : Int) out c = k out) (hN : a.length ≤ N) {n : Nat} (hn : a.length < n) : L n 0 [] = k (a.map h) := by
  have := raw_run0 hL a.length (fun j out => out.length + (a.length - j) ≤ N) (fun j out => k (out ++ (a.drop j).map h)) (fun j out c hj hI hc => by
    rw [h1 j out c hj (by omega), hc _ (by rw [List.length_append]; simp; omega), drop_cons d hj]
    simp) (fun out c hI => by rw [h2, List.drop_length]; simp) hn (s := []) (by simp; omega)
  rw [this]
  simp
theorem raw_filter {α β ρ : Type} {a : List α} (d : α) (h : α → Option β) (N : Nat) {k : List β → Option ρ} {L : Nat → Int → List β → Option ρ} {R : Int → List β → (Int → List β → Option ρ) → Option ρ} (hL : ∀ m i s, L (m + 1) i s = R i s (L m))
    (h1 : ∀ j out c, j < a.length → out.length + 1 ≤ N → R (j : Int) out c = c ((j + 1 : Nat) : Int) (match h (a.getD j d) with | some y => out ++ [y] | none => out)) (h2 : ∀ out c, R (a.length : Int) out c = k out) (hN : a.length ≤ N) {n : Nat} (hn : a.length < n) : L n 0 [] = k (a.filterMap h) := by
  have := raw_run0 hL a.length (fun j out => out.length + (a.length - j) ≤ N) (fun j out => k (out ++ (a.drop j).filterMap h)) (fun j out c hj hI hc => by
    rw [h1 j out c hj (by omega), drop_cons d hj, List.filterMap_cons]
    cases h (a.getD j d) with
    | none => exact hc out (by omega)
    | some y =>
      show c _ (out ++ [y]) = _
      rw [hc _ (by rw [List.length_append]; simp; omega)]
      simp) (fun out c hI => by rw [h2, List.drop_length]; simp) hn (s := []) (by simp; omega)
  rw [this]
  simp
theorem raw_all {α σ ρ : Type} {a : List α} (d : α) (p : α → Bool) {r : Option ρ} {e : σ → Option ρ} {L : Nat → Int → σ → Option ρ} {R : Int → σ → (Int → σ → Option ρ) → Option ρ} (hL : ∀ m i s, L (m + 1) i s = R i s (L m))
    (h1 : ∀ j s c, j < a.length → R (j : Int) s c = cond (p (a.getD j d)) (c ((j + 1 : Nat) : Int) s) r) (h2 : ∀ s c, R (a.length : Int) s c = e s) {n : Nat} {s : σ} (hn : a.length < n) : L n 0 s = cond (a.all p) (e s) r := by
  have := raw_run0 hL a.length (fun _ _ => True) (fun j s => cond ((a.drop j).all p) (e s) r) (fun j s c hj hi hc => by
    rw [h1 j s c hj, hc _ trivial, drop_cons d hj, List.all_cons]
    cases p (a.getD j d) <;> rfl) (fun s c _ => by rw [h2, List.drop_length]; rfl) hn (s := s) trivial
  rw [this, List.drop_zero]
theorem raw_idx {α σ ρ : Type} {a : List α} (d : α) (p : α → Bool) {k : Int → Option ρ} {L : Nat → Int → σ → Option ρ} {R : Int → σ → (Int → σ → Option ρ) → Option ρ} (hL : ∀ m i s, L (m + 1) i s = R i s (L m))
    (h1 : ∀ j s c, j < a.length → R (j : Int) s c = cond (p (a.getD j d)) (k (j : Int)) (c ((j + 1 : Nat) : Int) s)) (h2 : ∀ s c, R (a.length : Int) s c = k (-1)) {n : Nat} {s : σ} (hn : a.length < n) : L n 0 s = k (idxFrom p 0 a) := by
  have := raw_run0 hL a.length (fun _ _ => True) (fun j s => k (idxFrom p j (a.drop j))) (fun j s c hj hi hc => by
    rw [h1 j s c hj, hc _ trivial, drop_cons d hj]
    show _ = k (cond (p (a.getD j d)) (j : Int) (idxFrom p (j + 1) (a.drop (j + 1))))
    cases p (a.getD j d) <;> rfl) (fun s c _ => by rw [h2, List.drop_length]; rfl) hn (s := s) trivial
  rw [this, List.drop_zero]
theorem getD_mem {α : Type} {a : List α} {j : Nat} {d : α} (h : j < a.length) : a.getD j d ∈ a := by
  rw [List.getD_eq_getElem?_getD, List.getElem?_eq_getElem h]
  exact List.getElem_mem h
end Go.Proofs.YtcmjbplnjjdcdaaGreat.Ref

namespace Go.Proofs.YtcmjbplnjjdcdaaGreat.Ref
open Go.RowKit Go.Proofs.YtcmjbplnjjdcdaaGreatW.PrintWords Go.Proofs.YtcmjbplnjjdcdaaGreatW.PrintLast

abbrev TEntry := ByteArray × (Int × (Int × List ByteArray))
def wsum {α : Type} (wt : α → Nat) : List α → Nat
  | [] => 0
  | x :: xs => wt x + wsum wt xs
def wP (p : List ByteArray) : Nat := p.length + wsum ByteArray.size p
def wE (e : TEntry) : Nat := e.1.size + wP e.2.2.2
def wEs (l : List TEntry) : Nat := l.length + wsum wE l
theorem wsum_mem {α : Type} {wt : α → Nat} {x : α} {xs : List α} (h : x ∈ xs) : wt x ≤ wsum wt xs := by
  induction xs with
  | nil => cases h
  | cons y ys ih =>
    rcases List.mem_cons.1 h with rfl | h
    · unfold wsum; omega
    · have := ih h
      unfold wsum; omega
def eqStr (a b : ByteArray) : Bool := a.toList == b.toList
abbrev eqStrs (a b : List ByteArray) : Bool := eqL eqStr ByteArray.empty a b
def eqEntry (a b : TEntry) : Bool := eqStr a.1 b.1 && (a.2.1 == b.2.1 && (a.2.2.1 == b.2.2.1 && eqStrs a.2.2.2 b.2.2.2))
abbrev eqEntries (a b : List TEntry) : Bool := eqL eqEntry (ByteArray.empty, (0, (0, []))) a b
theorem eqStr_refl (a : ByteArray) : eqStr a a = true := by unfold eqStr; simp
theorem eqStrs_refl (a : List ByteArray) : eqStrs a a = true := eqL_refl eqStr_refl a
theorem eqEntry_refl (a : TEntry) : eqEntry a a = true := by unfold eqEntry; rw [eqStr_refl, eqStrs_refl]; simp
theorem eqEntries_refl (a : List TEntry) : eqEntries a a = true := eqL_refl eqEntry_refl a
/-- The comparison of two lists, as it stands in the code. -/
theorem eq_all {α ρ : Type} {p : α → α → Bool} {d : α} {k : Bool → Option ρ} {a b : List α} (hb : a.length ≤ big) {L : Nat → Int → Option ρ}
    (h : ∀ m i, L (m + 1) i = cond (decide (i < (a.length : Int))) (cond (inRange i a.length) (cond (inRange i b.length) (cond (!(p (a.getD i.toNat d) (b.getD i.toNat d))) (k false) (L m (IntKind.wrap .i64 (i + 1)))) none) none) (k true))
    {n : Nat} (hn : a.length < n) : cond ((a.length : Int) != (b.length : Int)) (k false) (L n 0) = k (eqL p d a b) := by
  by_cases hab : a.length = b.length
  · have h1 : ((a.length : Int) != (b.length : Int)) = false := by simp [hab]
    rw [h1]
    exact loop_eqL hab hb h hn
  · have h1 : ((a.length : Int) != (b.length : Int)) = true := by
      simp
      omega
    have h2 : (a.length == b.length) = false := by simp [hab]
    rw [h1]
    unfold eqL
    rw [h2]
    rfl

def inR (n lo hi : Int) : Bool := decide (lo ≤ n) && decide (n ≤ hi)
def modM (n m : Int) : Int := cond (inR m 1 1000000000000) (Int.tmod (IntKind.wrap .i64 (Int.tmod n m + m)) m) 0
def hashStep (acc v : Int) : Int := Int.tmod (IntKind.wrap .i64 (IntKind.wrap .i64 (IntKind.wrap .i64 (acc * 1000003) + modM v 2147483647) + 13)) 2147483647
def hash (l : List Int) : Int := l.foldl hashStep 11
def nodeOf (a b : Int) : Int := hash [229, a, b]
def up : List Int → List Int
  | [] => []
  | [x] => [x]
  | x :: y :: r => nodeOf x y :: up r
def isLetter (c : Int) : Bool := (decide (97 ≤ c) && decide (c ≤ 122)) || (decide (48 ≤ c) && decide (c ≤ 57))
def okByte (s : ByteArray) (j : Nat) : Bool := isLetter (bt s (j : Int)) || (bt s (j : Int) == 45 && (decide (0 < j) && decide (j + 1 < s.size)))
/-- n bytes from place j on are letters, digits or, inside, a dash. -/
def labelBytes (s : ByteArray) : Nat → Nat → Bool
  | 0, _ => true
  | n + 1, j => okByte s j && labelBytes s n (j + 1)
def isLabel (s : ByteArray) : Bool := inR s.size 1 8 && labelBytes s s.size 0
def isPath (p : List ByteArray) : Bool := inR p.length 1 4 && p.all isLabel
def cmpStr (a b : ByteArray) : Int := cond (Op.bytesLess a.toList b.toList) (-1) (cond (a.toList == b.toList) 0 1)
theorem compareBytes_eq : ∀ a b : List UInt8, Lib.compareBytes a b = cond (Op.bytesLess a b) (-1) (cond (a == b) 0 1)
  | [], [] => rfl
  | [], _ :: _ => rfl
  | _ :: _, [] => rfl
  | x :: a, y :: b => by
    unfold Lib.compareBytes Op.bytesLess
    by_cases h1 : x < y
    · simp [h1]
    · by_cases h2 : y < x
      · have h3 : (x == y) = false := beq_false_of_ne (fun e => by subst e; exact h1 h2)
        simp [h1, h2, h3]
      · have h3 : x = y := UInt8.le_antisymm (UInt8.not_lt.1 h2) (UInt8.not_lt.1 h1)
        subst h3
        simp [h1, compareBytes_eq a b]
theorem cmp_data (a b : ByteArray) : Lib.compareBytes a.data.toList b.data.toList = cmpStr a b := by
  unfold cmpStr
  rw [compareBytes_eq, ByteArray.toList_eq, ByteArray.toList_eq]
theorem cmpStr_swap (a b : ByteArray) : decide (cmpStr b a ≤ 0) = !(cmpStr a b == -1) := by
  rw [← cmp_data, ← cmp_data]
  generalize a.data.toList = x
  generalize b.data.toList = y
  induction x generalizing y with
  | nil => cases y <;> rfl
  | cons u x ih =>
    cases y with
    | nil => rfl
    | cons v y =>
      unfold Lib.compareBytes
      by_cases h1 : u < v
      · have h2 : ¬ v < u := fun h => absurd (UInt8.lt_trans h1 h) (UInt8.lt_irrefl u)
        simp [h1, h2]
      · by_cases h2 : v < u
        · simp [h1, h2]
        · simp only [h1, h2, if_false]
          exact ih y
theorem labelBytes_iff {s : ByteArray} : ∀ (n j : Nat), labelBytes s n j = true ↔ ∀ i, j ≤ i → i < j + n → okByte s i = true
  | 0, j => ⟨fun _ i h1 h2 => by omega, fun _ => rfl⟩
  | n + 1, j => by
    unfold labelBytes
    rw [Bool.and_eq_true, labelBytes_iff n (j + 1)]
    constructor
    · rintro ⟨h1, h2⟩ i h3 h4
      by_cases e : i = j
      · subst e; exact h1
      · exact h2 i (by omega) (by omega)
    · intro h
      exact ⟨h j (Nat.le_refl j) (by omega), fun i h3 h4 => h i (by omega) (by omega)⟩

/-- n bytes from place j on are letters, digits or dashes. -/
def charsFrom (s : ByteArray) : Nat → Nat → Bool
  | 0, _ => true
  | n + 1, j => (isLetter (bt s (j : Int)) || bt s (j : Int) == 45) && charsFrom s n (j + 1)
theorem charsFrom_iff {s : ByteArray} : ∀ (n j : Nat), charsFrom s n j = true ↔ ∀ i, j ≤ i → i < j + n → (isLetter (bt s (i : Int)) || bt s (i : Int) == 45) = true
  | 0, j => ⟨fun _ i h1 h2 => by omega, fun _ => rfl⟩
  | n + 1, j => by
    unfold charsFrom
    rw [Bool.and_eq_true, charsFrom_iff n (j + 1)]
    constructor
    · rintro ⟨h1, h2⟩ i h3 h4
      by_cases e : i = j
      · subst e; exact h1
      · exact h2 i (by omega) (by omega)
    · intro h
      exact ⟨h j (Nat.le_refl j) (by omega), fun i h3 h4 => h i (by omega) (by omega)⟩
theorem letter_dash {c : Int} (h : (c == 45) = true) : isLetter c = false := by
  have : c = 45 := by simpa using h
  subst this
  decide
theorem label_edges (s : ByteArray) (h : 1 ≤ s.size) : labelBytes s s.size 0 = (!(bt s 0 == 45) && (!(bt s ((s.size - 1 : Nat) : Int) == 45) && charsFrom s s.size 0)) := by
  apply Bool.eq_iff_iff.2
  simp only [Bool.and_eq_true, Bool.not_eq_true', labelBytes_iff, charsFrom_iff]
  constructor
  · intro h1
    refine ⟨?_, ?_, fun i h2 h3 => ?_⟩
    · cases e : bt s 0 == 45 with
      | false => rfl
      | true =>
        have := h1 0 (Nat.le_refl 0) (by omega)
        unfold okByte at this
        rw [show ((0 : Nat) : Int) = 0 from rfl, letter_dash e, e] at this
        simp at this
    · cases e : bt s ((s.size - 1 : Nat) : Int) == 45 with
      | false => rfl
      | true =>
        have := h1 (s.size - 1) (Nat.zero_le _) (by omega)
        unfold okByte at this
        rw [letter_dash e, e] at this
        simp at this
        omega
    · have := h1 i h2 h3
      unfold okByte at this
      revert this
      cases isLetter (bt s (i : Int)) <;> cases bt s (i : Int) == 45 <;> simp
  · rintro ⟨h1, h2, h3⟩ i h4 h5
    have h6 := h3 i h4 h5
    unfold okByte
    cases e : bt s (i : Int) == 45 with
    | false =>
      rw [e, Bool.or_false] at h6
      rw [h6]; rfl
    | true =>
      have h7 : i ≠ 0 := by rintro rfl; rw [show ((0 : Nat) : Int) = 0 from rfl, h1] at e; cases e
      have h8 : i ≠ s.size - 1 := by rintro rfl; rw [h2] at e; cases e
      have h9 : decide (0 < i) = true := by simp; omega
      have h10 : decide (i + 1 < s.size) = true := by simp; omega
      rw [h9, h10]
      simp
theorem idxFrom_any {α : Type} (p : α → Bool) : ∀ (l : List α) (j : Nat), decide (idxFrom p j l ≥ 0) = l.any p
  | [], j => rfl
  | x :: l, j => by
    unfold idxFrom
    rw [List.any_cons]
    cases p x with
    | true => simp
    | false => exact idxFrom_any p l (j + 1)
theorem any_not {α : Type} (p : α → Bool) (l : List α) : (!(l.any (fun x => !(p x)))) = l.all p := by
  induction l with
  | nil => rfl
  | cons x l ih => rw [List.any_cons, List.all_cons, ← ih]; cases p x <;> simp
theorem char_spec {ρ : Type} (k : Bool → Option ρ) (b : Int) (r : Bool) :
    (cond (decide (b < 97)) (cond (decide (b < 48)) (cond (b != 45) (k false) (k r)) (cond (decide (b > 57)) (cond (b != 45) (k false) (k r)) (k r)))
      (cond (decide (b > 122)) (cond (decide (b < 48)) (cond (b != 45) (k false) (k r)) (cond (decide (b > 57)) (cond (b != 45) (k false) (k r)) (k r))) (k r))) = k ((isLetter b || b == 45) && r) := by
  have e1 : decide (b < 97) = !decide (97 ≤ b) := by rw [← decide_not]; simp
  have e2 : decide (b < 48) = !decide (48 ≤ b) := by rw [← decide_not]; simp
  have e3 : decide (b > 57) = !decide (b ≤ 57) := by rw [← decide_not]; simp
  have e4 : decide (b > 122) = !decide (b ≤ 122) := by rw [← decide_not]; simp
  rw [e1, e2, e3, e4]
  unfold isLetter bne
  cases decide (97 ≤ b) <;> cases decide (b ≤ 122) <;> cases decide (48 ≤ b) <;> cases decide (b ≤ 57) <;> cases b == 45 <;> cases r <;> rfl

def isDigest (n : Int) : Bool := inR n 0 2147483646
def isEntry (e : TEntry) : Bool := isLabel e.1 && ((e.2.1 == 1 && (inR e.2.2.1 0 999999 && (e.2.2.2.length : Int) == 0)) || ((e.2.1 == 2 && (isDigest e.2.2.1 && (e.2.2.2.length : Int) == 0)) || (e.2.1 == 3 && (isDigest e.2.2.1 && isPath e.2.2.2))))
/-- Entries from place j on are valid, each label greater than the one before. -/
def areFrom (l : List TEntry) : Nat → Nat → Bool
  | 0, _ => true
  | n + 1, j => isEntry (l.getD j (ByteArray.empty, (0, (0, [])))) && ((decide (j = 0) || (cmpStr (l.getD (j - 1) (ByteArray.empty, (0, (0, [])))).1 (l.getD j (ByteArray.empty, (0, (0, [])))).1 == -1)) && areFrom l n (j + 1))
def areEntries (l : List TEntry) : Bool := areFrom l l.length 0 && decide (l.length ≤ 12)
def findEntry (l : List TEntry) (s : ByteArray) : Int := idxFrom (fun e => eqStr e.1 s) 0 l
def rankOf (l : List TEntry) (s : ByteArray) : Int := l.foldl (fun n e => cond (decide (cmpStr e.1 s < 0)) (IntKind.wrap .i64 (n + 1)) n) 0
theorem wP_mem {p : List ByteArray} {s : ByteArray} (h : s ∈ p) : s.size ≤ wP p := by
  have := wsum_mem (wt := ByteArray.size) h
  unfold wP; omega
theorem wEs_mem {l : List TEntry} {e : TEntry} (h : e ∈ l) : wE e ≤ wEs l := by
  have := wsum_mem (wt := wE) h
  unfold wEs; omega
end Go.Proofs.YtcmjbplnjjdcdaaGreat.Ref

namespace Go.Proofs.YtcmjbplnjjdcdaaGreat.Ref
open Go.RowKit Go.Proofs.YtcmjbplnjjdcdaaGreatW.PrintWords Go.Proofs.YtcmjbplnjjdcdaaGreatW.PrintLast

/-- The number behind the marks that are found; -1 where another thing stands. -/
def heldG {α : Type} (c : α → Int → Bool) (s : Int → Int) : List α → Int → Int
  | [], k => k
  | a :: l, k => cond (c a k) (heldG c s l (s k)) (-1)
def s1 (k : Int) : Int := IntKind.wrap .i64 (k + 1)
def s2 (k : Int) : Int := IntKind.wrap .i64 (IntKind.wrap .i64 (k + 1) + 1)
def mtOne (k : Int) : ByteArray := strOfNums [IntKind.wrap .u8 (IntKind.wrap .i64 (48 + Int.tmod k 10))]
def mtG : Nat → Int → ByteArray → ByteArray
  | 0, _, o => o
  | f + 1, k, o => cond (decide (k > 0)) (mtG f (IntKind.wrap .i64 (Int.tdiv k 10)) (mtOne k ++ o)) o
def markTextM (k : Int) : ByteArray := cond (decide (k ≤ 0)) (ByteArray.mk #[109, 48]) (ByteArray.mk #[109] ++ mtG 25 k (ByteArray.mk #[]))
def heldS (l : List ByteArray) (k : Int) : Int := heldG (fun a k => eqStr a (markTextM k)) s1 l k
theorem wP_ge (p : List ByteArray) : p.length ≤ wP p := by unfold wP; omega
theorem wE_ge (e : TEntry) : e.2.2.2.length ≤ wE e := by have := wP_ge e.2.2.2; unfold wE; omega
/-- On, unless it is -1. -/
def thenH (h : Int) (f : Int → Int) : Int := cond (decide (h < 0)) (-1) (f h)
def hE (e : TEntry) (k : Int) (G : Int → Int) : Int := cond (eqStr e.1 (markTextM k)) (cond (e.2.1 == s1 k) (cond (e.2.2.1 == s1 (s1 k)) (thenH (heldS e.2.2.2 (s1 (s1 (s1 k)))) G) (-1)) (-1)) (-1)
theorem wEs_ge (l : List TEntry) : l.length ≤ wEs l := by
  have h : wEs l = l.length + wsum wE l := rfl
  omega
end Go.Proofs.YtcmjbplnjjdcdaaGreat.Ref

namespace Go.Proofs.YtcmjbplnjjdcdaaGreat.Ref
open Go.RowKit Go.Proofs.YtcmjbplnjjdcdaaGreatW.PrintWords Go.Proofs.YtcmjbplnjjdcdaaGreatW.PrintLast

abbrev TCur := List Int × (Int × Int)
def stepH (h : Int) : Int := IntKind.wrap .i64 (IntKind.wrap .i64 (h * 6364136223846793005) + 1442695040888963407)
def byteX (h : Int) : Int := andI .i64 (xorI .i64 (h / (2 : Int) ^ 33) (h / (2 : Int) ^ 47)) 255
def byteC (c : TCur) : TCur × Int := cond (decide (c.2.1 < (c.1.length : Int))) ((c.1, (IntKind.wrap .i64 (c.2.1 + 1), stepH c.2.2)), andI .i64 (IntKind.wrap .i64 (byteX (stepH c.2.2) + IntKind.wrap .i64 (c.1.getD c.2.1.toNat 0))) 255) ((c.1, (c.2.1, stepH c.2.2)), byteX (stepH c.2.2))
/-- A cursor that stands within a text of a possible length. -/
def okC (c : TCur) : Bool := decide (0 ≤ c.2.1) && decide (c.1.length ≤ 1048576)
theorem okC_byte {c : TCur} (h : okC c = true) : okC (byteC c).1 = true := by
  unfold okC at h ⊢
  simp only [Bool.and_eq_true, decide_eq_true_eq] at h
  unfold byteC
  cases hc : decide (c.2.1 < (c.1.length : Int)) with
  | false => simp only [cond_false, Bool.and_eq_true, decide_eq_true_eq]; exact h
  | true =>
    have := of_decide_eq_true hc
    simp only [cond_true, Bool.and_eq_true, decide_eq_true_eq]
    rw [wrap_id (by omega) (by omega)]
    exact ⟨by omega, h.2⟩
theorem and255 (x : Int) : 0 ≤ andI .i64 x 255 ∧ andI .i64 x 255 ≤ 255 := by
  have hle : (BitVec.ofInt IntKind.i64.bits x &&& BitVec.ofInt IntKind.i64.bits 255).toNat ≤ 255 := by
    rw [BitVec.toNat_and]
    exact Nat.le_trans Nat.and_le_right (by decide)
  have e : andI .i64 x 255 = ((BitVec.ofInt IntKind.i64.bits x &&& BitVec.ofInt IntKind.i64.bits 255).toNat : Int) := by
    unfold andI
    exact wrap_id (by omega) (by omega)
  rw [e]
  omega
theorem byteC_range (c : TCur) : 0 ≤ (byteC c).2 ∧ (byteC c).2 ≤ 255 := by
  unfold byteC
  cases decide (c.2.1 < (c.1.length : Int)) with
  | false => exact and255 _
  | true => exact and255 _
def belowC (c : TCur) (n : Int) : TCur × Int := cond (decide (n ≤ 0)) (c, 0) (cond (decide (n ≤ 256)) ((byteC c).1, Int.tmod (byteC c).2 n)
  ((byteC (byteC (byteC c).1).1).1, Int.tmod (IntKind.wrap .i64 (IntKind.wrap .i64 (IntKind.wrap .i64 ((byteC c).2 * 65536) + IntKind.wrap .i64 ((byteC (byteC c).1).2 * 256)) + (byteC (byteC (byteC c).1).1).2)) n))
theorem okC_below {c : TCur} (n : Int) (h : okC c = true) : okC (belowC c n).1 = true := by
  unfold belowC
  cases decide (n ≤ 0) with
  | true => exact h
  | false =>
    cases decide (n ≤ 256) with
    | true => exact okC_byte h
    | false => exact okC_byte (okC_byte (okC_byte h))
theorem tmod_range {a n : Int} (ha : 0 ≤ a) (hn : 0 < n) : 0 ≤ Int.tmod a n ∧ Int.tmod a n < n := ⟨Int.tmod_nonneg _ ha, Int.tmod_lt_of_pos _ hn⟩
theorem below_range (c : TCur) {n : Int} (hn : 0 < n) : 0 ≤ (belowC c n).2 ∧ (belowC c n).2 < n := by
  unfold belowC
  have h0 : decide (n ≤ 0) = false := decide_eq_false (by omega)
  rw [h0]
  have b1 := byteC_range c
  have b2 := byteC_range (byteC c).1
  have b3 := byteC_range (byteC (byteC c).1).1
  cases decide (n ≤ 256) with
  | true => exact tmod_range b1.1 hn
  | false =>
    refine tmod_range ?_ hn
    rw [wrap_id (n := (byteC c).2 * 65536) (by omega) (by omega), wrap_id (n := (byteC (byteC c).1).2 * 256) (by omega) (by omega), wrap_id (n := (byteC c).2 * 65536 + (byteC (byteC c).1).2 * 256) (by omega) (by omega), wrap_id (by omega) (by omega)]
    omega
def strC (c : TCur) (l : List ByteArray) : TCur × ByteArray := ((belowC c (l.length : Int)).1, l.getD (Int.toNat (belowC c (l.length : Int)).2) ByteArray.empty)
def intC (c : TCur) (l : List Int) : TCur × Int := ((belowC c (l.length : Int)).1, l.getD (Int.toNat (belowC c (l.length : Int)).2) 0)
def onceC (c : TCur) (n : Int) : TCur × Bool := ((belowC c n).1, (belowC c n).2 == 0)
theorem okC_str {c : TCur} (l : List ByteArray) (h : okC c = true) : okC (strC c l).1 = true := okC_below _ h
theorem okC_int {c : TCur} (l : List Int) (h : okC c = true) : okC (intC c l).1 = true := okC_below _ h
theorem okC_once {c : TCur} (n : Int) (h : okC c = true) : okC (onceC c n).1 = true := okC_below _ h
theorem pick_in {α : Type} (c : TCur) (l : List α) (hl : 0 < l.length) : inRange (belowC c (l.length : Int)).2 l.length = true := by
  have := below_range c (n := (l.length : Int)) (by omega)
  unfold inRange
  simp only [Bool.and_eq_true, decide_eq_true_eq]
  exact this
theorem str_mem (c : TCur) (l : List ByteArray) (hl : 0 < l.length) : (strC c l).2 ∈ l := by
  have := below_range c (n := (l.length : Int)) (by omega)
  exact getD_mem (by omega)
def labels : List ByteArray := [(ByteArray.mk #[97, 110, 110]), (ByteArray.mk #[98, 111, 98]), (ByteArray.mk #[98, 97, 110, 107]), (ByteArray.mk #[115, 104, 111, 112]), (ByteArray.mk #[115, 104, 48, 112]), (ByteArray.mk #[53, 104, 111, 112]), (ByteArray.mk #[109, 97, 105, 108]), (ByteArray.mk #[109, 97, 45, 105, 108]), (ByteArray.mk #[97])]
def oddLabels : List ByteArray := [(ByteArray.mk #[]), (ByteArray.mk #[45, 97]), (ByteArray.mk #[97, 45]), (ByteArray.mk #[65]), (ByteArray.mk #[97, 46, 98]), (ByteArray.mk #[97, 98, 99, 100, 101, 102, 103, 104]), (ByteArray.mk #[97, 98, 99, 100, 101, 102, 103, 104, 105]), (ByteArray.mk #[49, 108]), (ByteArray.mk #[108, 49]), (ByteArray.mk #[48])]
def labelC (c : TCur) : TCur × ByteArray := strC c labels
def anyL (c : TCur) : TCur × ByteArray := cond (onceC c 4).2 (strC (onceC c 4).1 oddLabels) (labelC (onceC c 4).1)
theorem okC_label {c : TCur} (h : okC c = true) : okC (labelC c).1 = true := okC_str _ h
theorem okC_anyL {c : TCur} (h : okC c = true) : okC (anyL c).1 = true := by
  unfold anyL
  cases (onceC c 4).2 with
  | true => exact okC_str _ (okC_once _ h)
  | false => exact okC_label (okC_once _ h)
theorem labels_le : ∀ s ∈ labels, s.size ≤ 9 := by
  unfold labels
  simp only [List.mem_cons, List.not_mem_nil, or_false, forall_eq_or_imp, forall_eq]
  decide
theorem oddLabels_le : ∀ s ∈ oddLabels, s.size ≤ 9 := by
  unfold oddLabels
  simp only [List.mem_cons, List.not_mem_nil, or_false, forall_eq_or_imp, forall_eq]
  decide
theorem label_le (c : TCur) : (labelC c).2.size ≤ 9 := labels_le _ (str_mem c labels (by decide))
theorem anyL_le (c : TCur) : (anyL c).2.size ≤ 9 := by
  unfold anyL
  cases (onceC c 4).2 with
  | true => exact oddLabels_le _ (str_mem _ oddLabels (by decide))
  | false => exact label_le _
def pathGo : Nat → TCur → List ByteArray → TCur × List ByteArray
  | 0, c, o => (c, o)
  | n + 1, c, o => pathGo n (labelC c).1 (o ++ [(labelC c).2])
def pathC (c : TCur) : TCur × List ByteArray := pathGo (1 + (belowC c 3).2).toNat (belowC c 3).1 []
theorem okC_pathGo : ∀ (n : Nat) {c : TCur} (o : List ByteArray), okC c = true → okC (pathGo n c o).1 = true
  | 0, _, _, h => h
  | n + 1, _, _, h => okC_pathGo n _ (okC_label h)
theorem okC_path {c : TCur} (h : okC c = true) : okC (pathC c).1 = true := okC_pathGo _ _ (okC_below _ h)
theorem wP_app : ∀ (a b : List ByteArray), wP (a ++ b) = wP a + wP b
  | [], b => by show wP b = 0 + wP b; omega
  | x :: a, b => by
    have h1 := wP_app a b
    have h2 : ∀ l, wP (x :: l) = wP l + 1 + x.size := fun l => by
      show (l.length + 1) + (x.size + wsum ByteArray.size l) = (l.length + wsum ByteArray.size l) + 1 + x.size
      omega
    rw [List.cons_append, h2, h2, h1]
    omega
theorem wP_one (x : ByteArray) : wP [x] = 1 + x.size := rfl
theorem pathGo_le : ∀ (n : Nat) (c : TCur) (o : List ByteArray), wP (pathGo n c o).2 ≤ wP o + 10 * n
  | 0, _, _ => Nat.le_refl _
  | n + 1, c, o => by
    have h1 := pathGo_le n (labelC c).1 (o ++ [(labelC c).2])
    have h2 := label_le c
    rw [wP_app, wP_one] at h1
    show wP (pathGo n (labelC c).1 (o ++ [(labelC c).2])).2 ≤ _
    omega
theorem path_le (c : TCur) : wP (pathC c).2 ≤ 30 := by
  have h1 := pathGo_le (1 + (belowC c 3).2).toNat (belowC c 3).1 []
  have h2 := below_range c (n := 3) (by omega)
  have h3 : wP [] = 0 := rfl
  unfold pathC
  omega
def anyP (c : TCur) : TCur × List ByteArray := cond ((belowC (pathC c).1 8).2 == 0) ((anyL (anyL (belowC (pathC c).1 8).1).1).1, (pathC c).2 ++ [(anyL (belowC (pathC c).1 8).1).2, (anyL (anyL (belowC (pathC c).1 8).1).1).2])
  (cond ((belowC (pathC c).1 8).2 == 1) ((belowC (pathC c).1 8).1, []) ((belowC (pathC c).1 8).1, (pathC c).2))
theorem okC_anyP {c : TCur} (h : okC c = true) : okC (anyP c).1 = true := by
  unfold anyP
  have h1 := okC_below 8 (okC_path h)
  cases ((belowC (pathC c).1 8).2 == 0) with
  | true => exact okC_anyL (okC_anyL h1)
  | false => cases ((belowC (pathC c).1 8).2 == 1) <;> exact h1
theorem anyP_le (c : TCur) : wP (anyP c).2 ≤ 50 := by
  unfold anyP
  have h1 := path_le c
  have h2 := anyL_le (belowC (pathC c).1 8).1
  have h3 := anyL_le (anyL (belowC (pathC c).1 8).1).1
  cases ((belowC (pathC c).1 8).2 == 0) with
  | true =>
    rw [cond_true]
    show wP ((pathC c).2 ++ ([_] ++ [_])) ≤ 50
    rw [wP_app, wP_app, wP_one, wP_one]
    omega
  | false =>
    cases ((belowC (pathC c).1 8).2 == 1) with
    | true => exact Nat.zero_le _
    | false =>
      rw [cond_false, cond_false]
      show wP (pathC c).2 ≤ 50
      omega
def entryC (c : TCur) : TCur × TEntry := cond ((belowC (labelC c).1 5).2 == 0) ((belowC (belowC (labelC c).1 5).1 5000).1, ((labelC c).2, (2, ((belowC (belowC (labelC c).1 5).1 5000).2, []))))
  (cond ((belowC (labelC c).1 5).2 == 1) ((pathC (belowC (belowC (labelC c).1 5).1 5000).1).1, ((labelC c).2, (3, ((belowC (belowC (labelC c).1 5).1 5000).2, (pathC (belowC (belowC (labelC c).1 5).1 5000).1).2))))
    ((belowC (belowC (labelC c).1 5).1 50).1, ((labelC c).2, (1, ((belowC (belowC (labelC c).1 5).1 50).2, [])))))
theorem okC_entry {c : TCur} (h : okC c = true) : okC (entryC c).1 = true := by
  unfold entryC
  have h1 := okC_below 5 (okC_label h)
  cases ((belowC (labelC c).1 5).2 == 0) with
  | true => exact okC_below _ h1
  | false =>
    cases ((belowC (labelC c).1 5).2 == 1) with
    | true => exact okC_path (okC_below _ h1)
    | false => exact okC_below _ h1
theorem entry_le (c : TCur) : (entryC c).2.1.size ≤ 9 ∧ wP (entryC c).2.2.2.2 ≤ 30 := by
  unfold entryC
  have h1 := label_le c
  cases ((belowC (labelC c).1 5).2 == 0) with
  | true => exact ⟨h1, Nat.zero_le _⟩
  | false =>
    cases ((belowC (labelC c).1 5).2 == 1) with
    | true => exact ⟨h1, path_le _⟩
    | false => exact ⟨h1, Nat.zero_le _⟩
def kindsO : List Int := [0, 1, 2, 3, 4]
def valuesO : List Int := [-1, 999999, 1000000, 2147483646, 2147483647]
def anyE (c : TCur) : TCur × TEntry := cond ((belowC (entryC c).1 10).2 == 0) ((intC (belowC (entryC c).1 10).1 kindsO).1, ((entryC c).2.1, ((intC (belowC (entryC c).1 10).1 kindsO).2, (entryC c).2.2.2)))
  (cond ((belowC (entryC c).1 10).2 == 1) ((intC (belowC (entryC c).1 10).1 valuesO).1, ((entryC c).2.1, ((entryC c).2.2.1, ((intC (belowC (entryC c).1 10).1 valuesO).2, (entryC c).2.2.2.2))))
    (cond ((belowC (entryC c).1 10).2 == 2) ((anyL (belowC (entryC c).1 10).1).1, ((anyL (belowC (entryC c).1 10).1).2, (entryC c).2.2))
      (cond ((belowC (entryC c).1 10).2 == 3) ((anyP (belowC (entryC c).1 10).1).1, ((entryC c).2.1, ((entryC c).2.2.1, ((entryC c).2.2.2.1, (anyP (belowC (entryC c).1 10).1).2)))) ((belowC (entryC c).1 10).1, (entryC c).2))))
theorem okC_anyE {c : TCur} (h : okC c = true) : okC (anyE c).1 = true := by
  unfold anyE
  have h1 := okC_below 10 (okC_entry h)
  cases ((belowC (entryC c).1 10).2 == 0) with
  | true => exact okC_int _ h1
  | false =>
    cases ((belowC (entryC c).1 10).2 == 1) with
    | true => exact okC_int _ h1
    | false =>
      cases ((belowC (entryC c).1 10).2 == 2) with
      | true => exact okC_anyL h1
      | false =>
        cases ((belowC (entryC c).1 10).2 == 3) with
        | true => exact okC_anyP h1
        | false => exact h1
theorem anyE_le (c : TCur) : (anyE c).2.1.size ≤ 9 ∧ wP (anyE c).2.2.2.2 ≤ 50 := by
  unfold anyE
  have h1 := entry_le c
  have h2 : wP (entryC c).2.2.2.2 ≤ 50 := by omega
  cases ((belowC (entryC c).1 10).2 == 0) with
  | true => exact ⟨h1.1, h2⟩
  | false =>
    cases ((belowC (entryC c).1 10).2 == 1) with
    | true => exact ⟨h1.1, h2⟩
    | false =>
      cases ((belowC (entryC c).1 10).2 == 2) with
      | true => exact ⟨anyL_le _, h2⟩
      | false =>
        cases ((belowC (entryC c).1 10).2 == 3) with
        | true => exact ⟨h1.1, anyP_le _⟩
        | false => exact ⟨h1.1, h2⟩
def newStep (h x : Int) : Int := andI .i64 (IntKind.wrap .i64 (IntKind.wrap .i64 (IntKind.wrap .i64 (h * 137) + IntKind.wrap .i64 x) + 11)) 1073741823
def newC (l : List Int) : TCur := (l, (0, (l.take 4000).foldl newStep (IntKind.wrap .i64 (193017 + (l.length : Int)))))
theorem okC_new {l : List Int} (h : l.length ≤ 1048576) : okC (newC l) = true := by
  unfold okC newC
  simp only [Bool.and_eq_true, decide_eq_true_eq]
  exact ⟨Int.le_refl 0, h⟩
theorem raw_new {ρ : Type} {l : List Int} {k : Int → Option ρ} {L : Nat → Int → Int → Option ρ} (hl : l.length ≤ big)
    (h1 : ∀ m h i, L (m + 1) h i = cond (decide (i < (l.length : Int))) (cond (decide (i < (4000 : Int))) (cond (inRange i l.length) (L m (newStep h (l.getD i.toNat 0)) (IntKind.wrap .i64 (i + 1))) none) (k h)) (k h)) :
    ∀ (d n j : Nat) (h : Int), d + j = l.length → d < n → L n h (j : Int) = k (((l.take 4000).drop j).foldl newStep h)
  | 0, 0, _, _, _, hn => absurd hn (Nat.lt_irrefl 0)
  | d + 1, 0, _, _, _, hn => absurd hn (Nat.not_lt_zero _)
  | 0, n + 1, j, h, hd, _ => by
    have : ¬ j < l.length := by omega
    rw [h1, lt_nat, decide_eq_false this, cond_false, List.drop_eq_nil_of_le (by rw [List.length_take]; omega)]
    rfl
  | d + 1, n + 1, j, h, hd, hn => by
    have hj : j < l.length := by omega
    rw [h1, lt_nat, decide_eq_true hj, cond_true]
    by_cases h4 : j < 4000
    · have e4 : decide ((j : Int) < 4000) = true := decide_eq_true (by omega)
      have hb : j < big := by omega
      rw [e4, inRange_nat, decide_eq_true hj, wrap_succ hb]
      simp only [cond_true, Int.toNat_natCast]
      rw [raw_new hl h1 d n (j + 1) _ (by omega) (by omega)]
      have hjt : j < (l.take 4000).length := by rw [List.length_take]; omega
      have hg : (l.take 4000).getD j 0 = l.getD j 0 := by rw [List.getD_eq_getElem?_getD, List.getD_eq_getElem?_getD, List.getElem?_take_of_lt h4]
      rw [drop_cons 0 hjt, List.foldl_cons, hg]
    · have e4 : decide ((j : Int) < 4000) = false := decide_eq_false (by omega)
      rw [e4, cond_false, List.drop_eq_nil_of_le (by rw [List.length_take]; omega)]
      rfl
theorem eqStr_iff {a b : ByteArray} : eqStr a b = true ↔ a = b := by
  unfold eqStr
  constructor
  · intro h
    have h : a.toList = b.toList := by simpa using h
    rw [ByteArray.toList_eq, ByteArray.toList_eq] at h
    cases a with
    | mk x =>
      cases b with
      | mk y =>
        have : x = y := Array.ext' h
        rw [this]
  · intro h; subst h; simp
theorem wE_small {e : TEntry} (h : e.1.size ≤ 9 ∧ wP e.2.2.2 ≤ 50) : wE e ≤ 59 := by unfold wE; omega
end Go.Proofs.YtcmjbplnjjdcdaaGreat.Ref

namespace Go.Proofs.YtcmjbplnjjdcdaaGreat.Ref
open Go.RowKit Go.Proofs.YtcmjbplnjjdcdaaGreatW.PrintWords Go.Proofs.YtcmjbplnjjdcdaaGreatW.PrintLast

theorem wsum_app {α : Type} (wt : α → Nat) : ∀ a b : List α, wsum wt (a ++ b) = wsum wt a + wsum wt b
  | [], b => by show wsum wt b = 0 + wsum wt b; omega
  | x :: a, b => by
    have h := wsum_app wt a b
    show wt x + wsum wt (a ++ b) = (wt x + wsum wt a) + wsum wt b
    omega
theorem wEs_app (a b : List TEntry) : wEs (a ++ b) = wEs a + wEs b := by
  unfold wEs
  rw [wsum_app, List.length_append]
  omega
theorem wEs_cons (x : TEntry) (l : List TEntry) : wEs (x :: l) = 1 + wE x + wEs l := by
  show (l.length + 1) + (wE x + wsum wE l) = 1 + wE x + (l.length + wsum wE l)
  omega
theorem wEs_one (x : TEntry) : wEs [x] = 1 + wE x := by rw [wEs_cons]; rfl
def putAt (e x : TEntry) (s : Bool × List TEntry) : Bool × List TEntry := cond (decide (cmpStr x.1 e.1 ≥ 0)) (cond (!s.1) (true, s.2 ++ [e]) s) s
def putStep (e x : TEntry) (s : Bool × List TEntry) : Bool × List TEntry := ((putAt e x s).1, cond (cmpStr x.1 e.1 != 0) ((putAt e x s).2 ++ [x]) (putAt e x s).2)
def putGo (e : TEntry) : List TEntry → Bool × List TEntry → Bool × List TEntry
  | [], s => s
  | x :: xs, s => putGo e xs (putStep e x s)
def putOut (e : TEntry) (s : Bool × List TEntry) : List TEntry := cond (!s.1) (s.2 ++ [e]) s.2
def putFin (l : List TEntry) (e : TEntry) (s : Bool × List TEntry) : List TEntry × Bool := cond (!(areEntries l)) (l, false) (cond (!(areEntries (putOut e s))) (l, false) (putOut e s, true))
def putE (l : List TEntry) (e : TEntry) : List TEntry × Bool := putFin l e (putGo e l (false, []))
def putW (e : TEntry) (d : Bool) : Nat := cond d 0 (1 + wE e)
theorem putAt_w (e x : TEntry) (s : Bool × List TEntry) : wEs (putAt e x s).2 + putW e (putAt e x s).1 = wEs s.2 + putW e s.1 := by
  obtain ⟨d, o⟩ := s
  unfold putAt putW
  cases decide (cmpStr x.1 e.1 ≥ 0) with
  | false => rfl
  | true =>
    cases d with
    | true => rfl
    | false =>
      show wEs (o ++ [e]) + 0 = wEs o + (1 + wE e)
      rw [wEs_app, wEs_one]
      rfl
theorem putStep_w (e x : TEntry) (s : Bool × List TEntry) : wEs (putStep e x s).2 + putW e (putStep e x s).1 ≤ wEs s.2 + putW e s.1 + (1 + wE x) := by
  have h := putAt_w e x s
  unfold putStep
  cases cmpStr x.1 e.1 != 0 with
  | true =>
    show wEs ((putAt e x s).2 ++ [x]) + putW e (putAt e x s).1 ≤ _
    rw [wEs_app, wEs_one]
    omega
  | false =>
    show wEs (putAt e x s).2 + putW e (putAt e x s).1 ≤ _
    omega
theorem putGo_w (e : TEntry) : ∀ (l : List TEntry) (s : Bool × List TEntry), wEs (putGo e l s).2 + putW e (putGo e l s).1 ≤ wEs s.2 + putW e s.1 + wEs l
  | [], s => by show wEs s.2 + putW e s.1 ≤ _; omega
  | x :: l, s => by
    have h1 := putStep_w e x s
    have h2 := putGo_w e l (putStep e x s)
    rw [wEs_cons]
    show wEs (putGo e l (putStep e x s)).2 + putW e (putGo e l (putStep e x s)).1 ≤ _
    omega
theorem putOut_w (e : TEntry) (s : Bool × List TEntry) : wEs (putOut e s) = wEs s.2 + putW e s.1 := by
  obtain ⟨d, o⟩ := s
  unfold putOut putW
  cases d with
  | true => rfl
  | false =>
    show wEs (o ++ [e]) = wEs o + (1 + wE e)
    rw [wEs_app, wEs_one]
theorem putE_w (l : List TEntry) (e : TEntry) : wEs (putE l e).1 ≤ wEs l + (1 + wE e) := by
  have h1 := putGo_w e l (false, [])
  have h2 := putOut_w e (putGo e l (false, []))
  have h3 : wEs ([] : List TEntry) = 0 := rfl
  have h4 : putW e false = 1 + wE e := rfl
  dsimp only at h1
  rw [h3, h4] at h1
  unfold putE putFin
  cases areEntries l with
  | false => show wEs l ≤ _; omega
  | true =>
    cases areEntries (putOut e (putGo e l (false, []))) with
    | false => show wEs l ≤ _; omega
    | true => show wEs (putOut e (putGo e l (false, []))) ≤ _; omega
def listGo : Nat → TCur → List TEntry → TCur × List TEntry
  | 0, c, o => (c, o)
  | n + 1, c, o => listGo n (entryC c).1 (putE o (entryC c).2).1
def listC (c : TCur) : TCur × List TEntry := listGo (belowC c 7).2.toNat (belowC c 7).1 []
theorem okC_listGo : ∀ (n : Nat) {c : TCur} (o : List TEntry), okC c = true → okC (listGo n c o).1 = true
  | 0, _, _, h => h
  | n + 1, _, _, h => okC_listGo n _ (okC_entry h)
theorem okC_list {c : TCur} (h : okC c = true) : okC (listC c).1 = true := okC_listGo _ _ (okC_below _ h)
theorem entry_w (c : TCur) : wE (entryC c).2 ≤ 39 := by
  have := entry_le c
  unfold wE
  omega
theorem listGo_w : ∀ (n : Nat) (c : TCur) (o : List TEntry), wEs (listGo n c o).2 ≤ wEs o + 40 * n
  | 0, _, _ => Nat.le_refl _
  | n + 1, c, o => by
    have h1 := listGo_w n (entryC c).1 (putE o (entryC c).2).1
    have h2 := putE_w o (entryC c).2
    have h3 := entry_w c
    show wEs (listGo n (entryC c).1 (putE o (entryC c).2).1).2 ≤ _
    omega
theorem listC_w (c : TCur) : wEs (listC c).2 ≤ 240 := by
  have h1 := listGo_w (belowC c 7).2.toNat (belowC c 7).1 []
  have h2 := below_range c (n := 7) (by omega)
  have h3 : wEs ([] : List TEntry) = 0 := rfl
  unfold listC
  omega
end Go.Proofs.YtcmjbplnjjdcdaaGreat.Ref

namespace Go.Proofs.YtcmjbplnjjdcdaaGreat.Ref
open Go.RowKit Go.Proofs.YtcmjbplnjjdcdaaGreatW.PrintWords Go.Proofs.YtcmjbplnjjdcdaaGreatW.PrintLast

/-- Contents that may be none. -/
def oneLabels : List ByteArray := [(ByteArray.mk #[99]), (ByteArray.mk #[100]), (ByteArray.mk #[101]), (ByteArray.mk #[102]), (ByteArray.mk #[103]), (ByteArray.mk #[104]), (ByteArray.mk #[105]), (ByteArray.mk #[106]), (ByteArray.mk #[107]), (ByteArray.mk #[108]), (ByteArray.mk #[109]), (ByteArray.mk #[110])]
def manyGo : List ByteArray → List TEntry → List TEntry
  | [], o => o
  | s :: r, o => manyGo r (putE o (s, (1, (1, [])))).1
theorem manyGo_w : ∀ (r : List ByteArray) (o : List TEntry), (∀ s ∈ r, s.size ≤ 9) → wEs (manyGo r o) ≤ wEs o + 10 * r.length
  | [], o, _ => Nat.le_refl _
  | s :: r, o, h => by
    have h1 := manyGo_w r (putE o (s, (1, (1, [])))).1 (fun x hx => h x (List.mem_cons_of_mem _ hx))
    have h2 := putE_w o (s, (1, (1, [])))
    have h3 : wE (s, ((1 : Int), ((1 : Int), ([] : List ByteArray)))) = s.size + 0 := rfl
    have h4 := h s (List.mem_cons_self ..)
    show wEs (manyGo r (putE o (s, (1, (1, [])))).1) ≤ wEs o + 10 * (r.length + 1)
    omega
def anyEsP (r : TCur × List TEntry) : TCur × List TEntry := cond ((belowC r.1 10).2 == 0) ((anyE (belowC r.1 10).1).1, r.2 ++ [(anyE (belowC r.1 10).1).2])
  (cond ((belowC r.1 10).2 == 1) ((belowC r.1 10).1, manyGo oneLabels r.2) ((belowC r.1 10).1, r.2))
def anyEs (c : TCur) : TCur × List TEntry := anyEsP (listC c)
theorem okC_anyEsP {r : TCur × List TEntry} (h : okC r.1 = true) : okC (anyEsP r).1 = true := by
  unfold anyEsP
  have h1 := okC_below 10 h
  have h2 := okC_anyE h1
  generalize anyE (belowC r.1 10).1 = z at *
  generalize manyGo oneLabels r.2 = y at *
  generalize belowC r.1 10 = q at *
  cases (q.2 == 0) with
  | true => exact h2
  | false => cases (q.2 == 1) <;> exact h1
theorem okC_anyEs {c : TCur} (h : okC c = true) : okC (anyEs c).1 = true := okC_anyEsP (okC_list h)
theorem oneLabels_le : ∀ s ∈ oneLabels, s.size ≤ 9 := by
  unfold oneLabels
  simp only [List.mem_cons, List.not_mem_nil, or_false, forall_eq_or_imp, forall_eq]
  decide
theorem anyEsP_w {r : TCur × List TEntry} (h : wEs r.2 ≤ 240) : wEs (anyEsP r).2 ≤ 500 := by
  unfold anyEsP
  have h2 := wE_small (anyE_le (belowC r.1 10).1)
  have h3 := manyGo_w oneLabels r.2 oneLabels_le
  have h4 : oneLabels.length = 12 := rfl
  generalize anyE (belowC r.1 10).1 = z at *
  generalize manyGo oneLabels r.2 = y at *
  cases ((belowC r.1 10).2 == 0) with
  | true =>
    show wEs (r.2 ++ [z.2]) ≤ 500
    rw [wEs_app, wEs_one]
    omega
  | false =>
    cases ((belowC r.1 10).2 == 1) with
    | true => show wEs y ≤ 500; omega
    | false => show wEs r.2 ≤ 500; omega
theorem anyEs_w (c : TCur) : wEs (anyEs c).2 ≤ 500 := anyEsP_w (listC_w c)
end Go.Proofs.YtcmjbplnjjdcdaaGreat.Ref

namespace Go.Proofs.YtcmjbplnjjdcdaaGreat.Ref
open Go.RowKit Go.Proofs.YtcmjbplnjjdcdaaGreatW.PrintWords Go.Proofs.YtcmjbplnjjdcdaaGreatW.PrintLast

end Go.Proofs.YtcmjbplnjjdcdaaGreat.Ref

namespace Go.Proofs.YtcmjbplnjjdcdaaGreat.Ref
open Go.RowKit Go.Proofs.YtcmjbplnjjdcdaaGreatW.PrintWords Go.Proofs.YtcmjbplnjjdcdaaGreatW.PrintLast

theorem less_irr : ∀ a : List UInt8, Op.bytesLess a a = false
  | [] => rfl
  | x :: a => by
    have := less_irr a
    simp [Op.bytesLess, this]
theorem less_trans : ∀ {a b c : List UInt8}, Op.bytesLess a b = true → Op.bytesLess b c = true → Op.bytesLess a c = true
  | a, b, [], _, h2 => by cases b <;> simp [Op.bytesLess] at h2
  | a, [], z :: c, h1, _ => by cases a <;> simp [Op.bytesLess] at h1
  | [], y :: b, z :: c, _, _ => rfl
  | x :: a, y :: b, z :: c, h1, h2 => by
    simp only [Op.bytesLess, Bool.or_eq_true, Bool.and_eq_true, decide_eq_true_eq, beq_iff_eq] at h1 h2 ⊢
    rcases h1 with h1 | ⟨e1, h1⟩ <;> rcases h2 with h2 | ⟨e2, h2⟩
    · exact .inl (UInt8.lt_trans h1 h2)
    · subst e2; exact .inl h1
    · subst e1; exact .inl h2
    · subst e1; subst e2; exact .inr ⟨rfl, less_trans h1 h2⟩
theorem cmp_lt {a b : ByteArray} : cmpStr a b = -1 ↔ Op.bytesLess a.toList b.toList = true := by
  unfold cmpStr
  cases Op.bytesLess a.toList b.toList <;> cases (a.toList == b.toList) <;> simp
theorem cmp_three (a b : ByteArray) : cmpStr a b = -1 ∨ cmpStr a b = 0 ∨ cmpStr a b = 1 := by
  unfold cmpStr
  cases Op.bytesLess a.toList b.toList <;> cases (a.toList == b.toList) <;> simp
theorem cmp_zero {a b : ByteArray} (h : cmpStr a b = 0) : eqStr a b = true := by
  unfold cmpStr at h
  unfold eqStr
  cases h1 : Op.bytesLess a.toList b.toList with
  | true => rw [h1] at h; cases h
  | false =>
    rw [h1] at h
    cases h2 : (a.toList == b.toList) with
    | true => rfl
    | false => rw [h2] at h; cases h
abbrev dE : TEntry := (ByteArray.empty, (0, (0, [])))
abbrev at' (l : List TEntry) (j : Nat) : TEntry := l.getD j (ByteArray.empty, (0, (0, [])))
theorem areFrom_iff {l : List TEntry} : ∀ (n j : Nat), areFrom l n j = true → ∀ i, j ≤ i → i < j + n → isEntry (at' l i) = true ∧ (i = 0 ∨ cmpStr (at' l (i - 1)).1 (at' l i).1 = -1)
  | 0, j, _, i, h1, h2 => by omega
  | n + 1, j, h, i, h1, h2 => by
    unfold areFrom at h
    simp only [Bool.and_eq_true, Bool.or_eq_true, decide_eq_true_eq, beq_iff_eq] at h
    by_cases e : i = j
    · subst e
      exact ⟨h.1, h.2.1⟩
    · exact areFrom_iff n (j + 1) h.2.2 i (by omega) (by omega)
structure InOrder (l : List TEntry) : Prop where
  len : l.length ≤ 12
  entry : ∀ i, i < l.length → isEntry (at' l i) = true
  less : ∀ i j, i < j → j < l.length → Op.bytesLess (at' l i).1.toList (at' l j).1.toList = true
theorem inOrder {l : List TEntry} (h : areEntries l = true) : InOrder l := by
  unfold areEntries at h
  obtain ⟨h1, h2⟩ := (Bool.and_eq_true _ _).mp h
  have h3 := areFrom_iff _ _ h1
  refine ⟨of_decide_eq_true h2, fun i hi => (h3 i (Nat.zero_le _) (by omega)).1, ?_⟩
  intro i j hij
  induction j with
  | zero => omega
  | succ j ih =>
    intro hj
    have h4 := cmp_lt.1 ((h3 (j + 1) (Nat.zero_le _) (by omega)).2.resolve_left (by omega))
    rw [Nat.add_sub_cancel] at h4
    by_cases e : i = j
    · subst e; exact h4
    · exact less_trans (ih (by omega) (by omega)) h4
theorem idxFrom_at {α : Type} {p : α → Bool} (d : α) : ∀ (l : List α) (k j : Nat), j < l.length → p (l.getD j d) = true → (∀ i, i < j → p (l.getD i d) = false) → idxFrom p k l = ((k + j : Nat) : Int)
  | [], k, j, h, _, _ => by simp at h
  | x :: l, k, 0, _, h1, _ => by
    have h1 : p x = true := h1
    show cond (p x) (k : Int) _ = _
    rw [h1]
    rfl
  | x :: l, k, j + 1, h, h1, h2 => by
    have h3 : p x = false := h2 0 (by omega)
    show cond (p x) (k : Int) (idxFrom p (k + 1) l) = _
    rw [h3, cond_false, idxFrom_at d l (k + 1) j (by simpa using h) h1 (fun i hi => h2 (i + 1) (by omega))]
    omega
theorem find_at {l : List TEntry} (h : InOrder l) {j : Nat} (hj : j < l.length) : findEntry l (at' l j).1 = (j : Int) := by
  have := idxFrom_at (p := fun e => eqStr e.1 (at' l j).1) dE l 0 j hj (eqStr_refl _) (fun i hi => by
    have h1 := h.less i j hi hj
    show eqStr (at' l i).1 (at' l j).1 = false
    unfold eqStr
    cases h2 : ((at' l i).1.toList == (at' l j).1.toList) with
    | false => rfl
    | true => rw [eq_of_beq h2, less_irr] at h1; cases h1)
  rw [Nat.zero_add] at this
  exact this
structure Placed (l : List TEntry) (s : ByteArray) (r : Nat) : Prop where
  rank : rankOf l s = (r : Int)
  le : r ≤ l.length
  below : ∀ j, j < r → Op.bytesLess (at' l j).1.toList s.toList = true
  above : ∀ j, r ≤ j → j < l.length → Op.bytesLess s.toList (at' l j).1.toList = true
end Go.Proofs.YtcmjbplnjjdcdaaGreat.Ref
