/- The proof system: an abstract machine over data, and that what it computes the code computes.
   Conditions: as each theorem states. -/
import Derived.Test.YthgbcbnmdioknaaK4
import Derived.Lib.Bytealg
set_option linter.unusedVariables false
set_option linter.unusedSimpArgs false
namespace Go.Proofs.Ythgbcbnmdioknaa.Ref
open Go.RowKit Go.Proofs.YthgbcbnmdioknaaW.PrintWords Go.Proofs.YthgbcbnmdioknaaW.PrintLast

theorem wrap_id {n : Int} (h0 : -9223372036854775808 ≤ n) (h1 : n < 9223372036854775808) : IntKind.wrap .i64 n = n := by
  have e : IntKind.wrap .i64 n = if n % 18446744073709551616 ≥ 9223372036854775808 then n % 18446744073709551616 - 18446744073709551616 else n % 18446744073709551616 := by
    unfold IntKind.wrap
    simp [IntKind.signed, IntKind.bits]
  rw [e]
  split <;> omega
theorem wrap_succ {j : Nat} (h : j < big) : IntKind.wrap .i64 ((j : Int) + 1) = ((j + 1 : Nat) : Int) := by
  unfold big at h
  rw [wrap_id (by omega) (by omega)]
  omega
theorem inRange_nat (j n : Nat) : inRange (j : Int) n = decide (j < n) := by
  unfold inRange
  by_cases h : j < n
  · have h1 : (j : Int) < (n : Int) := by omega
    simp [h, h1]
  · have h1 : ¬ (j : Int) < (n : Int) := by omega
    simp [h, h1]
theorem lt_nat (j n : Nat) : decide ((j : Int) < (n : Int)) = decide (j < n) := by
  by_cases h : j < n
  · have h1 : (j : Int) < (n : Int) := by omega
    simp [h, h1]
  · have h1 : ¬ (j : Int) < (n : Int) := by omega
    simp [h, h1]
/-- n rounds from number j on. -/
def iter {σ ρ : Type} (f : Nat → σ → (σ → Option ρ) → Option ρ) (e : σ → Option ρ) : Nat → Nat → σ → Option ρ
  | 0, _, s => e s
  | n + 1, j, s => f j s (iter f e n (j + 1))
theorem loop_iter {σ ρ : Type} {len : Nat} {f : Nat → σ → (σ → Option ρ) → Option ρ} {e : σ → Option ρ} {L : Nat → Int → σ → Option ρ}
    (h : ∀ m j s, j < len → L (m + 1) (j : Int) s = f j s (fun s' => L m ((j + 1 : Nat) : Int) s')) (he : ∀ m s, L (m + 1) (len : Int) s = e s) : ∀ (n j m : Nat) (s : σ), n + j = len → n < m → L m (j : Int) s = iter f e n j s
  | 0, j, 0, s, _, hm => by omega
  | 0, j, m + 1, s, hn, _ => by
    have : j = len := by omega
    subst this
    exact he m s
  | n + 1, j, 0, s, _, hm => by omega
  | n + 1, j, m + 1, s, hn, hm => by
    rw [h m j s (by omega)]
    show f j s _ = f j s _
    congr 1
    funext s'
    exact loop_iter h he n (j + 1) m s' (by omega) (by omega)
/-- Two lists, place by place. -/
def allN (q : Nat → Bool) : Nat → Nat → Bool
  | 0, _ => true
  | n + 1, j => q j && allN q n (j + 1)
def eqL {α : Type} (p : α → α → Bool) (d : α) (a b : List α) : Bool := (a.length == b.length) && allN (fun j => p (a.getD j d) (b.getD j d)) a.length 0
theorem allN_true {q : Nat → Bool} (h : ∀ j, q j = true) : ∀ n j, allN q n j = true
  | 0, _ => rfl
  | n + 1, j => by unfold allN; rw [h j, allN_true h n (j + 1)]; rfl
theorem eqL_refl {α : Type} {p : α → α → Bool} {d : α} (h : ∀ x, p x x = true) (a : List α) : eqL p d a a = true := by
  unfold eqL
  rw [allN_true (fun j => h _)]
  simp
theorem iter_all {σ ρ : Type} {q : Nat → Bool} {k : Bool → Option ρ} : ∀ (n j : Nat) (s : σ), iter (fun j s c => cond (!(q j)) (k false) (c s)) (fun _ => k true) n j s = k (allN q n j)
  | 0, _, _ => rfl
  | n + 1, j, s => by
    show cond (!(q j)) (k false) _ = k (q j && allN q n (j + 1))
    rw [iter_all n (j + 1) s]
    cases q j <;> rfl
/-- A loop that compares two lists place by place. -/
theorem loop_eqL {α ρ : Type} {p : α → α → Bool} {d : α} {k : Bool → Option ρ} {a b : List α} (hab : a.length = b.length) (hb : a.length ≤ big) {L : Nat → Int → Option ρ}
    (h : ∀ m i, L (m + 1) i = cond (decide (i < (a.length : Int))) (cond (inRange i a.length) (cond (inRange i b.length) (cond (!(p (a.getD i.toNat d) (b.getD i.toNat d))) (k false) (L m (IntKind.wrap .i64 (i + 1)))) none) none) (k true)) :
    ∀ {n : Nat}, a.length < n → L n 0 = k (eqL p d a b) := by
  intro n hn
  have h1 := loop_iter (σ := Unit) (len := a.length) (f := fun j s c => cond (!(p (a.getD j d) (b.getD j d))) (k false) (c s)) (e := fun _ => k true) (L := fun m i _ => L m i) (fun m j s hj => by
    rw [h m (j : Int), lt_nat, inRange_nat, inRange_nat, wrap_succ (by omega)]
    have h2 : decide (j < a.length) = true := by simpa using hj
    have h3 : decide (j < b.length) = true := by rw [← hab]; exact h2
    simp [h2, h3]) (fun m s => by
    rw [h m _]
    simp) a.length 0 n () (by omega) hn
  have h2 : L n 0 = _ := h1
  rw [h2, iter_all]
  have h3 : (a.length == b.length) = true := by simp [hab]
  unfold eqL
  rw [h3, Bool.true_and]
/-- A loop that counts from 0 to len. -/
theorem raw_run {σ ρ : Type} {L : Nat → Int → σ → Option ρ} {R : Int → σ → (Int → σ → Option ρ) → Option ρ} (hL : ∀ m i s, L (m + 1) i s = R i s (L m)) (len : Nat) (I : Nat → σ → Prop) (Res : Nat → σ → Option ρ)
    (h1 : ∀ j s c, j < len → I j s → (∀ s', I (j + 1) s' → c ((j + 1 : Nat) : Int) s' = Res (j + 1) s') → R (j : Int) s c = Res j s) (h2 : ∀ s c, I len s → R (len : Int) s c = Res len s) :
    ∀ (d n j : Nat) (s : σ), d + j = len → d < n → I j s → L n (j : Int) s = Res j s
  | 0, 0, _, _, _, hn, _ => by omega
  | _ + 1, 0, _, _, _, hn, _ => by omega
  | 0, n + 1, j, s, hd, _, hI => by
    have : j = len := by omega
    subst this
    rw [hL]
    exact h2 s _ hI
  | d + 1, n + 1, j, s, hd, hn, hI => by
    rw [hL]
    exact h1 j s _ (by omega) hI (fun s' hI' => raw_run hL len I Res h1 h2 d n (j + 1) s' (by omega) (by omega) hI')
theorem raw_run0 {σ ρ : Type} {L : Nat → Int → σ → Option ρ} {R : Int → σ → (Int → σ → Option ρ) → Option ρ} (hL : ∀ m i s, L (m + 1) i s = R i s (L m)) (len : Nat) (I : Nat → σ → Prop) (Res : Nat → σ → Option ρ)
    (h1 : ∀ j s c, j < len → I j s → (∀ s', I (j + 1) s' → c ((j + 1 : Nat) : Int) s' = Res (j + 1) s') → R (j : Int) s c = Res j s) (h2 : ∀ s c, I len s → R (len : Int) s c = Res len s) {n : Nat} {s : σ} (hn : len < n) (hI : I 0 s) : L n 0 s = Res 0 s :=
  raw_run hL len I Res h1 h2 len n 0 s (by omega) hn hI
/-- The same, where only the rounds that can be are looked at. -/
theorem raw_steps {σ ρ : Type} {L : Nat → Int → σ → Option ρ} (len : Nat) (I : Nat → σ → Prop) (Res : Nat → σ → Option ρ)
    (h1 : ∀ m j s, j < len → I j s → (∀ s', I (j + 1) s' → L m ((j + 1 : Nat) : Int) s' = Res (j + 1) s') → L (m + 1) (j : Int) s = Res j s) (h2 : ∀ m s, I len s → L (m + 1) (len : Int) s = Res len s) :
    ∀ (d n j : Nat) (s : σ), d + j = len → d < n → I j s → L n (j : Int) s = Res j s
  | 0, 0, _, _, _, hn, _ => by omega
  | _ + 1, 0, _, _, _, hn, _ => by omega
  | 0, n + 1, j, s, hd, _, hI => by
    have : j = len := by omega
    subst this
    exact h2 n s hI
  | d + 1, n + 1, j, s, hd, hn, hI => h1 n j s (by omega) hI (fun s' hI' => raw_steps len I Res h1 h2 d n (j + 1) s' (by omega) (by omega) hI')
theorem drop_cons {α : Type} {a : List α} {j : Nat} (d : α) (h : j < a.length) : a.drop j = a.getD j d :: a.drop (j + 1) := by
  rw [List.drop_eq_getElem_cons h, List.getD_eq_getElem?_getD, List.getElem?_eq_getElem h]
  rfl
theorem raw_foldl {α σ ρ : Type} {a : List α} (d : α) (g : σ → α → σ) {k : σ → Option ρ} {L : Nat → Int → σ → Option ρ} {R : Int → σ → (Int → σ → Option ρ) → Option ρ} (hL : ∀ m i s, L (m + 1) i s = R i s (L m)) (I : Nat → σ → Prop)
    (h1 : ∀ j s c, j < a.length → I j s → R (j : Int) s c = c ((j + 1 : Nat) : Int) (g s (a.getD j d))) (hI : ∀ j s, j < a.length → I j s → I (j + 1) (g s (a.getD j d))) (h2 : ∀ s c, R (a.length : Int) s c = k s) {n : Nat} {s : σ} (hn : a.length < n) (h0 : I 0 s) : L n 0 s = k (a.foldl g s) := by
  have := raw_run0 hL a.length I (fun j s => k ((a.drop j).foldl g s)) (fun j s c hj hi hc => by
    rw [h1 j s c hj hi, hc _ (hI j s hj hi), drop_cons d hj]
    rfl) (fun s c _ => by rw [h2, List.drop_length]; rfl) hn h0
  rw [this, List.drop_zero]
theorem raw_filter {α β ρ : Type} {a : List α} (d : α) (h : α → Option β) (N : Nat) {k : List β → Option ρ} {L : Nat → Int → List β → Option ρ} {R : Int → List β → (Int → List β → Option ρ) → Option ρ} (hL : ∀ m i s, L (m + 1) i s = R i s (L m))
    (h1 : ∀ j out c, j < a.length → out.length + 1 ≤ N → R (j : Int) out c = c ((j + 1 : Nat) : Int) (match h (a.getD j d) with | some y => out ++ [y] | none => out)) (h2 : ∀ out c, R (a.length : Int) out c = k out) (hN : a.length ≤ N) {n : Nat} (hn : a.length < n) : L n 0 [] = k (a.filterMap h) := by
  have := raw_run0 hL a.length (fun j out => out.length + (a.length - j) ≤ N) (fun j out => k (out ++ (a.drop j).filterMap h)) (fun j out c hj hI hc => by
    rw [h1 j out c hj (by omega), drop_cons d hj, List.filterMap_cons]
    cases h (a.getD j d) with
    | none => exact hc out (by omega)
    | some y =>
      show c _ (out ++ [y]) = _
      rw [hc _ (by rw [List.length_append]; simp; omega)]
      simp) (fun out c hI => by rw [h2, List.drop_length]; simp) hn (s := []) (by simp; omega)
  rw [this]
  simp
theorem raw_all {α σ ρ : Type} {a : List α} (d : α) (p : α → Bool) {r : Option ρ} {e : σ → Option ρ} {L : Nat → Int → σ → Option ρ} {R : Int → σ → (Int → σ → Option ρ) → Option ρ} (hL : ∀ m i s, L (m + 1) i s = R i s (L m))
    (h1 : ∀ j s c, j < a.length → R (j : Int) s c = cond (p (a.getD j d)) (c ((j + 1 : Nat) : Int) s) r) (h2 : ∀ s c, R (a.length : Int) s c = e s) {n : Nat} {s : σ} (hn : a.length < n) : L n 0 s = cond (a.all p) (e s) r := by
  have := raw_run0 hL a.length (fun _ _ => True) (fun j s => cond ((a.drop j).all p) (e s) r) (fun j s c hj hi hc => by
    rw [h1 j s c hj, hc _ trivial, drop_cons d hj, List.all_cons]
    cases p (a.getD j d) <;> rfl) (fun s c _ => by rw [h2, List.drop_length]; rfl) hn (s := s) trivial
  rw [this, List.drop_zero]
theorem raw_any {α σ ρ : Type} {a : List α} (d : α) (p : α → Bool) {r : Option ρ} {e : σ → Option ρ} {L : Nat → Int → σ → Option ρ} {R : Int → σ → (Int → σ → Option ρ) → Option ρ} (hL : ∀ m i s, L (m + 1) i s = R i s (L m))
    (h1 : ∀ j s c, j < a.length → R (j : Int) s c = cond (p (a.getD j d)) r (c ((j + 1 : Nat) : Int) s)) (h2 : ∀ s c, R (a.length : Int) s c = e s) {n : Nat} {s : σ} (hn : a.length < n) : L n 0 s = cond (a.any p) r (e s) := by
  have := raw_run0 hL a.length (fun _ _ => True) (fun j s => cond ((a.drop j).any p) r (e s)) (fun j s c hj hi hc => by
    rw [h1 j s c hj, hc _ trivial, drop_cons d hj, List.any_cons]
    cases p (a.getD j d) <;> rfl) (fun s c _ => by rw [h2, List.drop_length]; rfl) hn (s := s) trivial
  rw [this, List.drop_zero]
end Go.Proofs.Ythgbcbnmdioknaa.Ref

namespace Go.Proofs.Ythgbcbnmdioknaa.Ref
open Go.RowKit Go.Proofs.YthgbcbnmdioknaaW.PrintWords Go.Proofs.YthgbcbnmdioknaaW.PrintLast

abbrev TSig := Int × Int
abbrev TKeys := List Int × Int
abbrev TEntry := ByteArray × (Int × (Int × List ByteArray))
def eqStr (a b : ByteArray) : Bool := a.toList == b.toList
abbrev eqInts (a b : List Int) : Bool := eqL (fun x y => x == y) 0 a b
theorem eqInts_refl (a : List Int) : eqInts a a = true := eqL_refl (fun x => by simp) a
/-- The comparison of two lists, as it stands in the code. -/
theorem eq_all {α ρ : Type} {p : α → α → Bool} {d : α} {k : Bool → Option ρ} {a b : List α} (hb : a.length ≤ big) {L : Nat → Int → Option ρ}
    (h : ∀ m i, L (m + 1) i = cond (decide (i < (a.length : Int))) (cond (inRange i a.length) (cond (inRange i b.length) (cond (!(p (a.getD i.toNat d) (b.getD i.toNat d))) (k false) (L m (IntKind.wrap .i64 (i + 1)))) none) none) (k true))
    {n : Nat} (hn : a.length < n) : cond ((a.length : Int) != (b.length : Int)) (k false) (L n 0) = k (eqL p d a b) := by
  by_cases hab : a.length = b.length
  · have h1 : ((a.length : Int) != (b.length : Int)) = false := by simp [hab]
    rw [h1]
    exact loop_eqL hab hb h hn
  · have h1 : ((a.length : Int) != (b.length : Int)) = true := by
      simp
      omega
    have h2 : (a.length == b.length) = false := by simp [hab]
    rw [h1]
    unfold eqL
    rw [h2]
    rfl

def inR (n lo hi : Int) : Bool := decide (lo ≤ n) && decide (n ≤ hi)
def modM (n m : Int) : Int := cond (inR m 1 1000000000000) (Int.tmod (IntKind.wrap .i64 (Int.tmod n m + m)) m) 0
def hashStep (acc v : Int) : Int := Int.tmod (IntKind.wrap .i64 (IntKind.wrap .i64 (IntKind.wrap .i64 (acc * 1000003) + modM v 2147483647) + 13)) 2147483647
def hash (l : List Int) : Int := l.foldl hashStep 11
def keyedHash (key : Int) (l : List Int) : Int := hash (key :: (l ++ [key]))
def nodeOf (a b : Int) : Int := hash [229, a, b]
def up : List Int → List Int
  | [] => []
  | [x] => [x]
  | x :: y :: r => nodeOf x y :: up r
def isLetter (c : Int) : Bool := (decide (97 ≤ c) && decide (c ≤ 122)) || (decide (48 ≤ c) && decide (c ≤ 57))
def okByte (s : ByteArray) (j : Nat) : Bool := isLetter (bt s (j : Int)) || (bt s (j : Int) == 45 && (decide (0 < j) && decide (j + 1 < s.size)))
/-- n bytes from place j on are letters, digits or, inside, a dash. -/
def labelBytes (s : ByteArray) : Nat → Nat → Bool
  | 0, _ => true
  | n + 1, j => okByte s j && labelBytes s n (j + 1)
def isLabel (s : ByteArray) : Bool := inR s.size 1 8 && labelBytes s s.size 0
def isPath (p : List ByteArray) : Bool := inR p.length 1 4 && p.all isLabel
def cmpStr (a b : ByteArray) : Int := cond (Op.bytesLess a.toList b.toList) (-1) (cond (a.toList == b.toList) 0 1)
def isKey (k : Int) : Bool := inR k 1 99
def isDigest (n : Int) : Bool := inR n 0 2147483646
def isEntry (e : TEntry) : Bool := isLabel e.1 && ((e.2.1 == 1 && (inR e.2.2.1 0 999999 && (e.2.2.2.length : Int) == 0)) || ((e.2.1 == 2 && (isDigest e.2.2.1 && (e.2.2.2.length : Int) == 0)) || (e.2.1 == 3 && (isDigest e.2.2.1 && isPath e.2.2.2))))
def rankOf (l : List TEntry) (s : ByteArray) : Int := l.foldl (fun n e => cond (decide (cmpStr e.1 s < 0)) (IntKind.wrap .i64 (n + 1)) n) 0
def tagOf (key : Int) (msg : List Int) : Int := keyedHash key (223 :: msg)
def isSigBy (s : TSig) (msg : List Int) : Bool := inR s.1 1 99 && s.2 == tagOf s.1 msg
def hasSig (sigs : List TSig) (key : Int) (msg : List Int) : Bool := sigs.any fun s => s.1 == key && isSigBy s msg
def hasInt (l : List Int) (x : Int) : Bool := l.any fun y => x == y
def signBy (held : List Int) (k : TKeys) (msg : List Int) : List TSig := k.1.filterMap fun key => match hasInt held key with | true => some (key, tagOf key msg) | false => none
theorem foldl_flat {α : Type} : ∀ (l : List (List α)) (o : List α), l.foldl (fun o x => o ++ x) o = o ++ l.flatten
  | [], o => by simp
  | x :: l, o => by rw [List.foldl_cons, foldl_flat l]; simp
theorem take_flat_le {α : Type} (l : List (List α)) (j : Nat) : (l.take j).flatten.length ≤ l.flatten.length := by
  conv => rhs; rw [← List.take_append_drop j l]
  rw [List.flatten_append, List.length_append]
  omega
theorem take_flat_succ {α : Type} (l : List (List α)) (j : Nat) (h : j < l.length) : (l.take (j + 1)).flatten.length = (l.take j).flatten.length + (l.getD j []).length := by
  rw [List.take_succ_eq_append_getElem h, List.flatten_append, List.length_append, List.getD_eq_getElem?_getD, List.getElem?_eq_getElem h]
  simp
theorem cond_and {ρ : Type} (k : Bool → ρ) (c b : Bool) : cond c (k b) (k false) = k (c && b) := by cases c <;> rfl
end Go.Proofs.Ythgbcbnmdioknaa.Ref

namespace Go.Proofs.Ythgbcbnmdioknaa.Ref
open Go.RowKit Go.Proofs.YthgbcbnmdioknaaW.PrintWords Go.Proofs.YthgbcbnmdioknaaW.PrintLast

/-- The number behind the marks that are found; -1 where another thing stands. -/
def heldG {α : Type} (c : α → Int → Bool) (s : Int → Int) : List α → Int → Int
  | [], k => k
  | a :: l, k => cond (c a k) (heldG c s l (s k)) (-1)
def s1 (k : Int) : Int := IntKind.wrap .i64 (k + 1)
def s2 (k : Int) : Int := IntKind.wrap .i64 (IntKind.wrap .i64 (k + 1) + 1)
def mtOne (k : Int) : ByteArray := strOfNums [IntKind.wrap .u8 (IntKind.wrap .i64 (48 + Int.tmod k 10))]
def mtG : Nat → Int → ByteArray → ByteArray
  | 0, _, o => o
  | f + 1, k, o => cond (decide (k > 0)) (mtG f (IntKind.wrap .i64 (Int.tdiv k 10)) (mtOne k ++ o)) o
def markTextM (k : Int) : ByteArray := cond (decide (k ≤ 0)) (ByteArray.mk #[109, 48]) (ByteArray.mk #[109] ++ mtG 25 k (ByteArray.mk #[]))
def heldS (l : List ByteArray) (k : Int) : Int := heldG (fun a k => eqStr a (markTextM k)) s1 l k
/-- On, unless it is -1. -/
def thenH (h : Int) (f : Int → Int) : Int := cond (decide (h < 0)) (-1) (f h)
def hE (e : TEntry) (k : Int) (G : Int → Int) : Int := cond (eqStr e.1 (markTextM k)) (cond (e.2.1 == s1 k) (cond (e.2.2.1 == s1 (s1 k)) (thenH (heldS e.2.2.2 (s1 (s1 (s1 k)))) G) (-1)) (-1)) (-1)
end Go.Proofs.Ythgbcbnmdioknaa.Ref

namespace Go.Proofs.Ythgbcbnmdioknaa.Ref
open Go.RowKit Go.Proofs.YthgbcbnmdioknaaW.PrintWords Go.Proofs.YthgbcbnmdioknaaW.PrintLast

abbrev TCur := List Int × (Int × Int)
def stepH (h : Int) : Int := IntKind.wrap .i64 (IntKind.wrap .i64 (h * 6364136223846793005) + 1442695040888963407)
def byteX (h : Int) : Int := andI .i64 (xorI .i64 (h / (2 : Int) ^ 33) (h / (2 : Int) ^ 47)) 255
def byteC (c : TCur) : TCur × Int := cond (decide (c.2.1 < (c.1.length : Int))) ((c.1, (IntKind.wrap .i64 (c.2.1 + 1), stepH c.2.2)), andI .i64 (IntKind.wrap .i64 (byteX (stepH c.2.2) + IntKind.wrap .i64 (c.1.getD c.2.1.toNat 0))) 255) ((c.1, (c.2.1, stepH c.2.2)), byteX (stepH c.2.2))
/-- A cursor that stands within a text of a possible length. -/
def okC (c : TCur) : Bool := decide (0 ≤ c.2.1) && decide (c.1.length ≤ 1048576)
theorem okC_byte {c : TCur} (h : okC c = true) : okC (byteC c).1 = true := by
  unfold okC at h ⊢
  simp only [Bool.and_eq_true, decide_eq_true_eq] at h
  unfold byteC
  cases hc : decide (c.2.1 < (c.1.length : Int)) with
  | false => simp only [cond_false, Bool.and_eq_true, decide_eq_true_eq]; exact h
  | true =>
    have := of_decide_eq_true hc
    simp only [cond_true, Bool.and_eq_true, decide_eq_true_eq]
    rw [wrap_id (by omega) (by omega)]
    exact ⟨by omega, h.2⟩
theorem and255 (x : Int) : 0 ≤ andI .i64 x 255 ∧ andI .i64 x 255 ≤ 255 := by
  have hle : (BitVec.ofInt IntKind.i64.bits x &&& BitVec.ofInt IntKind.i64.bits 255).toNat ≤ 255 := by
    rw [BitVec.toNat_and]
    exact Nat.le_trans Nat.and_le_right (by decide)
  have e : andI .i64 x 255 = ((BitVec.ofInt IntKind.i64.bits x &&& BitVec.ofInt IntKind.i64.bits 255).toNat : Int) := by
    unfold andI
    exact wrap_id (by omega) (by omega)
  rw [e]
  omega
theorem byteC_range (c : TCur) : 0 ≤ (byteC c).2 ∧ (byteC c).2 ≤ 255 := by
  unfold byteC
  cases decide (c.2.1 < (c.1.length : Int)) with
  | false => exact and255 _
  | true => exact and255 _
def belowC (c : TCur) (n : Int) : TCur × Int := cond (decide (n ≤ 0)) (c, 0) (cond (decide (n ≤ 256)) ((byteC c).1, Int.tmod (byteC c).2 n)
  ((byteC (byteC (byteC c).1).1).1, Int.tmod (IntKind.wrap .i64 (IntKind.wrap .i64 (IntKind.wrap .i64 ((byteC c).2 * 65536) + IntKind.wrap .i64 ((byteC (byteC c).1).2 * 256)) + (byteC (byteC (byteC c).1).1).2)) n))
theorem okC_below {c : TCur} (n : Int) (h : okC c = true) : okC (belowC c n).1 = true := by
  unfold belowC
  cases decide (n ≤ 0) with
  | true => exact h
  | false =>
    cases decide (n ≤ 256) with
    | true => exact okC_byte h
    | false => exact okC_byte (okC_byte (okC_byte h))
theorem tmod_range {a n : Int} (ha : 0 ≤ a) (hn : 0 < n) : 0 ≤ Int.tmod a n ∧ Int.tmod a n < n := ⟨Int.tmod_nonneg _ ha, Int.tmod_lt_of_pos _ hn⟩
theorem below_range (c : TCur) {n : Int} (hn : 0 < n) : 0 ≤ (belowC c n).2 ∧ (belowC c n).2 < n := by
  unfold belowC
  have h0 : decide (n ≤ 0) = false := decide_eq_false (by omega)
  rw [h0]
  have b1 := byteC_range c
  have b2 := byteC_range (byteC c).1
  have b3 := byteC_range (byteC (byteC c).1).1
  cases decide (n ≤ 256) with
  | true => exact tmod_range b1.1 hn
  | false =>
    refine tmod_range ?_ hn
    rw [wrap_id (n := (byteC c).2 * 65536) (by omega) (by omega), wrap_id (n := (byteC (byteC c).1).2 * 256) (by omega) (by omega), wrap_id (n := (byteC c).2 * 65536 + (byteC (byteC c).1).2 * 256) (by omega) (by omega), wrap_id (by omega) (by omega)]
    omega
def intC (c : TCur) (l : List Int) : TCur × Int := ((belowC c (l.length : Int)).1, l.getD (Int.toNat (belowC c (l.length : Int)).2) 0)
theorem okC_int {c : TCur} (l : List Int) (h : okC c = true) : okC (intC c l).1 = true := okC_below _ h
theorem pick_in {α : Type} (c : TCur) (l : List α) (hl : 0 < l.length) : inRange (belowC c (l.length : Int)).2 l.length = true := by
  have := below_range c (n := (l.length : Int)) (by omega)
  unfold inRange
  simp only [Bool.and_eq_true, decide_eq_true_eq]
  exact this
def newStep (h x : Int) : Int := andI .i64 (IntKind.wrap .i64 (IntKind.wrap .i64 (IntKind.wrap .i64 (h * 137) + IntKind.wrap .i64 x) + 11)) 1073741823
def newC (l : List Int) : TCur := (l, (0, (l.take 4000).foldl newStep (IntKind.wrap .i64 (193017 + (l.length : Int)))))
theorem okC_new {l : List Int} (h : l.length ≤ 1048576) : okC (newC l) = true := by
  unfold okC newC
  simp only [Bool.and_eq_true, decide_eq_true_eq]
  exact ⟨Int.le_refl 0, h⟩
theorem raw_new {ρ : Type} {l : List Int} {k : Int → Option ρ} {L : Nat → Int → Int → Option ρ} (hl : l.length ≤ big)
    (h1 : ∀ m h i, L (m + 1) h i = cond (decide (i < (l.length : Int))) (cond (decide (i < (4000 : Int))) (cond (inRange i l.length) (L m (newStep h (l.getD i.toNat 0)) (IntKind.wrap .i64 (i + 1))) none) (k h)) (k h)) :
    ∀ (d n j : Nat) (h : Int), d + j = l.length → d < n → L n h (j : Int) = k (((l.take 4000).drop j).foldl newStep h)
  | 0, 0, _, _, _, hn => absurd hn (Nat.lt_irrefl 0)
  | d + 1, 0, _, _, _, hn => absurd hn (Nat.not_lt_zero _)
  | 0, n + 1, j, h, hd, _ => by
    have : ¬ j < l.length := by omega
    rw [h1, lt_nat, decide_eq_false this, cond_false, List.drop_eq_nil_of_le (by rw [List.length_take]; omega)]
    rfl
  | d + 1, n + 1, j, h, hd, hn => by
    have hj : j < l.length := by omega
    rw [h1, lt_nat, decide_eq_true hj, cond_true]
    by_cases h4 : j < 4000
    · have e4 : decide ((j : Int) < 4000) = true := decide_eq_true (by omega)
      have hb : j < big := by omega
      rw [e4, inRange_nat, decide_eq_true hj, wrap_succ hb]
      simp only [cond_true, Int.toNat_natCast]
      rw [raw_new hl h1 d n (j + 1) _ (by omega) (by omega)]
      have hjt : j < (l.take 4000).length := by rw [List.length_take]; omega
      have hg : (l.take 4000).getD j 0 = l.getD j 0 := by rw [List.getD_eq_getElem?_getD, List.getD_eq_getElem?_getD, List.getElem?_take_of_lt h4]
      rw [drop_cons 0 hjt, List.foldl_cons, hg]
    · have e4 : decide ((j : Int) < 4000) = false := decide_eq_false (by omega)
      rw [e4, cond_false, List.drop_eq_nil_of_le (by rw [List.length_take]; omega)]
      rfl
def keysGo : Nat → Int → TCur → List Int → TCur × List Int
  | 0, _, c, o => (c, o)
  | d + 1, at', c, o => keysGo d (IntKind.wrap .i64 (IntKind.wrap .i64 (at' + 1) + (belowC c 3).2)) (belowC c 3).1 (o ++ [IntKind.wrap .i64 (IntKind.wrap .i64 (at' + 1) + (belowC c 3).2)])
theorem okC_keysGo : ∀ (d : Nat) (at' : Int) {c : TCur} (o : List Int), okC c = true → okC (keysGo d at' c o).1 = true
  | 0, _, _, _, h => h
  | d + 1, _, _, _, h => okC_keysGo d _ _ (okC_below _ h)
theorem keysGo_len : ∀ (d : Nat) (at' : Int) (c : TCur) (o : List Int), (keysGo d at' c o).2.length = o.length + d
  | 0, _, _, _ => rfl
  | d + 1, at', c, o => by
    show (keysGo d _ _ (o ++ [_])).2.length = _
    rw [keysGo_len d]
    simp
    omega
/-- How many keys are drawn. -/
def keysN (c : TCur) : Nat := (1 + (belowC c 3).2).toNat
theorem keysN_le (c : TCur) : keysN c ≤ 3 ∧ 1 ≤ keysN c ∧ IntKind.wrap .i64 (1 + (belowC c 3).2) = (keysN c : Int) := by
  have h2 := below_range c (n := 3) (by omega)
  unfold keysN
  rw [wrap_id (by omega) (by omega)]
  omega
def keysL (c : TCur) : TCur × List Int := keysGo (keysN c) (belowC (belowC c 3).1 4).2 (belowC (belowC c 3).1 4).1 []
def keysC (c : TCur) : TCur × TKeys := ((belowC (keysL c).1 (keysN c : Int)).1, ((keysL c).2, IntKind.wrap .i64 (1 + (belowC (keysL c).1 (keysN c : Int)).2)))
theorem okC_keys {c : TCur} (h : okC c = true) : okC (keysC c).1 = true := okC_below _ (okC_keysGo _ _ _ (okC_below _ (okC_below _ h)))
theorem keys_le (c : TCur) : (keysC c).2.1.length ≤ 3 := by
  show (keysGo _ _ _ []).2.length ≤ 3
  rw [keysGo_len]
  have := (keysN_le c).1
  simp
  exact this
def anyK (c : TCur) : TCur × TKeys := (cond ((belowC (keysC c).1 10).2 == 0) (((intC (belowC (keysC c).1 10).1 [0, -1, 5]).1, ((keysC c).2.1, (intC (belowC (keysC c).1 10).1 [0, -1, 5]).2))) (cond ((belowC (keysC c).1 10).2 == 1) (((intC (belowC (keysC c).1 10).1 [1, 99, 100]).1, ((List.append (keysC c).2.1 [(intC (belowC (keysC c).1 10).1 [1, 99, 100]).2]), (keysC c).2.2))) (cond ((belowC (keysC c).1 10).2 == 2) (((belowC (keysC c).1 10).1, (([] : List Int), (keysC c).2.2))) (((belowC (keysC c).1 10).1, (keysC c).2)))))
theorem okC_anyK {c : TCur} (h : okC c = true) : okC (anyK c).1 = true := by
  unfold anyK
  have h1 := okC_below 10 (okC_keys h)
  cases ((belowC (keysC c).1 10).2 == 0) with
  | true => exact okC_int _ h1
  | false =>
    cases ((belowC (keysC c).1 10).2 == 1) with
    | true => exact okC_int _ h1
    | false => cases ((belowC (keysC c).1 10).2 == 2) <;> exact h1
theorem anyK_le (c : TCur) : (anyK c).2.1.length ≤ 4 := by
  unfold anyK
  have h1 := keys_le c
  cases ((belowC (keysC c).1 10).2 == 0) with
  | true => exact Nat.le_succ_of_le h1
  | false =>
    cases ((belowC (keysC c).1 10).2 == 1) with
    | true =>
      show ((keysC c).2.1 ++ [_]).length ≤ 4
      rw [List.length_append]
      exact Nat.succ_le_succ h1
    | false =>
      cases ((belowC (keysC c).1 10).2 == 2) with
      | true => exact Nat.zero_le _
      | false => exact Nat.le_succ_of_le h1
end Go.Proofs.Ythgbcbnmdioknaa.Ref

namespace Go.Proofs.Ythgbcbnmdioknaa.Ref
open Go.RowKit Go.Proofs.YthgbcbnmdioknaaW.PrintWords Go.Proofs.YthgbcbnmdioknaaW.PrintLast

def heldGo : Nat → TCur → List Int → TCur × List Int
  | 0, c, o => (c, o)
  | n + 1, c, o => heldGo n (belowC c 9).1 (o ++ [IntKind.wrap .i64 (1 + (belowC c 9).2)])
def heldC (c : TCur) : TCur × List Int := heldGo (belowC c 6).2.toNat (belowC c 6).1 []
theorem okC_heldGo : ∀ (n : Nat) {c : TCur} (o : List Int), okC c = true → okC (heldGo n c o).1 = true
  | 0, _, _, h => h
  | n + 1, _, _, h => okC_heldGo n _ (okC_below _ h)
theorem okC_held {c : TCur} (h : okC c = true) : okC (heldC c).1 = true := okC_heldGo _ _ (okC_below _ h)
def sigsP (q : TCur × List Int) (p : TKeys) (msg : List Int) : TCur × List TSig := (cond ((belowC q.1 6).2 == 0) (((belowC (intC (belowC q.1 6).1 [0, 1, 2, 100]).1 9).1, (List.append (signBy q.2 p msg) [((intC (belowC q.1 6).1 [0, 1, 2, 100]).2, (belowC (intC (belowC q.1 6).1 [0, 1, 2, 100]).1 9).2)]))) (cond ((belowC q.1 6).2 == 1) (((belowC q.1 6).1, (List.append (signBy q.2 p msg) (signBy q.2 p msg)))) (cond ((belowC q.1 6).2 == 2) (cond (decide ((List.length (signBy q.2 p msg) : Int) > 0)) (((belowC q.1 6).1, (List.set (signBy q.2 p msg) (Int.toNat 0) ((List.getD (signBy q.2 p msg) 0 (0, 0)).1, (IntKind.wrap .i64 ((List.getD (signBy q.2 p msg) 0 (0, 0)).2 + 1)))))) (((belowC q.1 6).1, (signBy q.2 p msg)))) (((belowC q.1 6).1, (signBy q.2 p msg))))))
def sigsC (c : TCur) (p : TKeys) (msg : List Int) : TCur × List TSig := sigsP (heldC c) p msg
theorem signBy_le (h : List Int) (k : TKeys) (msg : List Int) : (signBy h k msg).length ≤ k.1.length := List.length_filterMap_le _ _
theorem sigsP_le (q : TCur × List Int) (p : TKeys) (msg : List Int) : (sigsP q p msg).2.length ≤ 2 * p.1.length + 1 := by
  unfold sigsP
  have h := signBy_le q.2 p msg
  generalize signBy q.2 p msg = l at *
  cases ((belowC q.1 6).2 == 0) with
  | true =>
    show (l ++ [_]).length ≤ _
    rw [List.length_append]
    show l.length + 1 ≤ _
    omega
  | false =>
    cases ((belowC q.1 6).2 == 1) with
    | true =>
      show (l ++ l).length ≤ _
      rw [List.length_append]
      omega
    | false =>
      cases ((belowC q.1 6).2 == 2) with
      | false => show l.length ≤ _; omega
      | true =>
        cases decide ((l.length : Int) > 0) with
        | false => show l.length ≤ _; omega
        | true =>
          show (l.set _ _).length ≤ _
          rw [List.length_set]
          omega
end Go.Proofs.Ythgbcbnmdioknaa.Ref

namespace Go.Proofs.Ythgbcbnmdioknaa.Ref
open Go.RowKit Go.Proofs.YthgbcbnmdioknaaW.PrintWords Go.Proofs.YthgbcbnmdioknaaW.PrintLast

end Go.Proofs.Ythgbcbnmdioknaa.Ref

namespace Go.Proofs.Ythgbcbnmdioknaa.Ref
open Go.RowKit Go.Proofs.YthgbcbnmdioknaaW.PrintWords Go.Proofs.YthgbcbnmdioknaaW.PrintLast

theorem hasInt_mem {l : List Int} {x : Int} (h : x ∈ l) : hasInt l x = true := by
  unfold hasInt
  rw [List.any_eq_true]
  exact ⟨x, h, by simp⟩
end Go.Proofs.Ythgbcbnmdioknaa.Ref

namespace Go.Proofs.Ythgbcbnmdioknaa.Ref
open Go.RowKit Go.Proofs.YthgbcbnmdioknaaW.PrintWords Go.Proofs.YthgbcbnmdioknaaW.PrintLast

abbrev at' (l : List TEntry) (j : Nat) : TEntry := l.getD j (ByteArray.empty, (0, (0, [])))
structure InOrder (l : List TEntry) : Prop where
  len : l.length ≤ 12
  entry : ∀ i, i < l.length → isEntry (at' l i) = true
  less : ∀ i j, i < j → j < l.length → Op.bytesLess (at' l i).1.toList (at' l j).1.toList = true
structure Placed (l : List TEntry) (s : ByteArray) (r : Nat) : Prop where
  rank : rankOf l s = (r : Int)
  le : r ≤ l.length
  below : ∀ j, j < r → Op.bytesLess (at' l j).1.toList s.toList = true
  above : ∀ j, r ≤ j → j < l.length → Op.bytesLess s.toList (at' l j).1.toList = true
end Go.Proofs.Ythgbcbnmdioknaa.Ref
