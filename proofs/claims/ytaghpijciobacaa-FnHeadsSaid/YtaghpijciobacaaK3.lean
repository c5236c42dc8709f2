/- The proof system: an abstract machine over data, and that what it computes the code computes.
   Conditions: as each theorem states. -/
import Derived.Test.YtaghpijciobacaaK2
import Derived.Lib.Bytealg
set_option linter.unusedVariables false
set_option linter.unusedSimpArgs false
/-! ## PA -/
namespace Go.Proofs.Ytaghpijciobacaa.Ref
open Go.RowKit Go.Proofs.YtaghpijciobacaaW.PrintWords Go.Proofs.YtaghpijciobacaaW.PrintLast

theorem wrap_id {n : Int} (h0 : -9223372036854775808 ≤ n) (h1 : n < 9223372036854775808) : IntKind.wrap .i64 n = n := by
  have e : IntKind.wrap .i64 n = if n % 18446744073709551616 ≥ 9223372036854775808 then n % 18446744073709551616 - 18446744073709551616 else n % 18446744073709551616 := by
    unfold IntKind.wrap
    simp [IntKind.signed, IntKind.bits]
  rw [e]
  split <;> omega
theorem wrap_succ {j : Nat} (h : j < big) : IntKind.wrap .i64 ((j : Int) + 1) = ((j + 1 : Nat) : Int) := by
  unfold big at h
  rw [wrap_id (by omega) (by omega)]
  omega
theorem inRange_nat (j n : Nat) : inRange (j : Int) n = decide (j < n) := by
  unfold inRange
  by_cases h : j < n
  · have h1 : (j : Int) < (n : Int) := by omega
    simp [h, h1]
  · have h1 : ¬ (j : Int) < (n : Int) := by omega
    simp [h, h1]
theorem lt_nat (j n : Nat) : decide ((j : Int) < (n : Int)) = decide (j < n) := by
  by_cases h : j < n
  · have h1 : (j : Int) < (n : Int) := by omega
    simp [h, h1]
  · have h1 : ¬ (j : Int) < (n : Int) := by omega
    simp [h, h1]
/-- n rounds from number j on. -/
def iter {σ ρ : Type} (f : Nat → σ → (σ → Option ρ) → Option ρ) (e : σ → Option ρ) : Nat → Nat → σ → Option ρ
  | 0, _, s => e s
  | n + 1, j, s => f j s (iter f e n (j + 1))
theorem loop_iter {σ ρ : Type} {len : Nat} {f : Nat → σ → (σ → Option ρ) → Option ρ} {e : σ → Option ρ} {L : Nat → Int → σ → Option ρ}
    (h : ∀ m j s, j < len → L (m + 1) (j : Int) s = f j s (fun s' => L m ((j + 1 : Nat) : Int) s')) (he : ∀ m s, L (m + 1) (len : Int) s = e s) : ∀ (n j m : Nat) (s : σ), n + j = len → n < m → L m (j : Int) s = iter f e n j s
  | 0, j, 0, s, _, hm => by omega
  | 0, j, m + 1, s, hn, _ => by
    have : j = len := by omega
    subst this
    exact he m s
  | n + 1, j, 0, s, _, hm => by omega
  | n + 1, j, m + 1, s, hn, hm => by
    rw [h m j s (by omega)]
    show f j s _ = f j s _
    congr 1
    funext s'
    exact loop_iter h he n (j + 1) m s' (by omega) (by omega)
/-- The same over a list's elements. -/
def foldK {α σ ρ : Type} (f : α → σ → (σ → Option ρ) → Option ρ) (e : σ → Option ρ) : List α → σ → Option ρ
  | [], s => e s
  | x :: xs, s => f x s (foldK f e xs)
theorem iter_fold {α σ ρ : Type} {a : List α} {d : α} {f : α → σ → (σ → Option ρ) → Option ρ} {e : σ → Option ρ} : ∀ (n j : Nat) (s : σ), n + j = a.length → iter (fun j s c => f (a.getD j d) s c) e n j s = foldK f e (a.drop j) s
  | 0, j, s, h => by rw [List.drop_of_length_le (by omega)]; rfl
  | n + 1, j, s, h => by
    have hj : j < a.length := by omega
    rw [List.drop_eq_getElem_cons hj]
    show f (a.getD j d) s _ = f a[j] s _
    rw [List.getD_eq_getElem?_getD, List.getElem?_eq_getElem hj]
    show f a[j] s _ = _
    congr 1
    funext s'
    exact iter_fold n (j + 1) s' (by omega)
theorem loop_fold {α σ ρ : Type} {a : List α} {d : α} {f : α → σ → (σ → Option ρ) → Option ρ} {e : σ → Option ρ} {L : Nat → Int → σ → Option ρ}
    (h : ∀ m j s, j < a.length → L (m + 1) (j : Int) s = f (a.getD j d) s (fun s' => L m ((j + 1 : Nat) : Int) s')) (he : ∀ m s, L (m + 1) (a.length : Int) s = e s) {m : Nat} (s : σ) (hm : a.length < m) : L m 0 s = foldK f e a s := by
  have h1 := loop_iter (f := fun j s c => f (a.getD j d) s c) h he a.length 0 m s (by omega) hm
  rw [iter_fold a.length 0 s (by omega), List.drop_zero] at h1
  exact h1
/-- Two lists, place by place. -/
def allN (q : Nat → Bool) : Nat → Nat → Bool
  | 0, _ => true
  | n + 1, j => q j && allN q n (j + 1)
def eqL {α : Type} (p : α → α → Bool) (d : α) (a b : List α) : Bool := (a.length == b.length) && allN (fun j => p (a.getD j d) (b.getD j d)) a.length 0
theorem allN_true {q : Nat → Bool} (h : ∀ j, q j = true) : ∀ n j, allN q n j = true
  | 0, _ => rfl
  | n + 1, j => by unfold allN; rw [h j, allN_true h n (j + 1)]; rfl
theorem eqL_refl {α : Type} {p : α → α → Bool} {d : α} (h : ∀ x, p x x = true) (a : List α) : eqL p d a a = true := by
  unfold eqL
  rw [allN_true (fun j => h _)]
  simp
theorem iter_all {σ ρ : Type} {q : Nat → Bool} {k : Bool → Option ρ} : ∀ (n j : Nat) (s : σ), iter (fun j s c => cond (!(q j)) (k false) (c s)) (fun _ => k true) n j s = k (allN q n j)
  | 0, _, _ => rfl
  | n + 1, j, s => by
    show cond (!(q j)) (k false) _ = k (q j && allN q n (j + 1))
    rw [iter_all n (j + 1) s]
    cases q j <;> rfl
/-- A loop that compares two lists place by place. -/
theorem loop_eqL {α ρ : Type} {p : α → α → Bool} {d : α} {k : Bool → Option ρ} {a b : List α} (hab : a.length = b.length) (hb : a.length ≤ big) {L : Nat → Int → Option ρ}
    (h : ∀ m i, L (m + 1) i = cond (decide (i < (a.length : Int))) (cond (inRange i a.length) (cond (inRange i b.length) (cond (!(p (a.getD i.toNat d) (b.getD i.toNat d))) (k false) (L m (IntKind.wrap .i64 (i + 1)))) none) none) (k true)) :
    ∀ {n : Nat}, a.length < n → L n 0 = k (eqL p d a b) := by
  intro n hn
  have h1 := loop_iter (σ := Unit) (len := a.length) (f := fun j s c => cond (!(p (a.getD j d) (b.getD j d))) (k false) (c s)) (e := fun _ => k true) (L := fun m i _ => L m i) (fun m j s hj => by
    rw [h m (j : Int), lt_nat, inRange_nat, inRange_nat, wrap_succ (by omega)]
    have h2 : decide (j < a.length) = true := by simpa using hj
    have h3 : decide (j < b.length) = true := by rw [← hab]; exact h2
    simp [h2, h3]) (fun m s => by
    rw [h m _]
    simp) a.length 0 n () (by omega) hn
  have h2 : L n 0 = _ := h1
  rw [h2, iter_all]
  have h3 : (a.length == b.length) = true := by simp [hab]
  unfold eqL
  rw [h3, Bool.true_and]
/-! Loops over numbers, as they stand in the code. -/
theorem loop_n {σ ρ : Type} {len : Nat} (hb : len ≤ big) {L : Nat → Int → σ → Option ρ} {F : Int → σ → (σ → Option ρ) → Option ρ} {e : σ → Option ρ}
    (h : ∀ m i s, L (m + 1) i s = cond (decide (i < (len : Int))) (F i s (fun s' => L m (IntKind.wrap .i64 (i + 1)) s')) (e s)) {n : Nat} {s : σ} (hn : len < n) : L n 0 s = iter (fun j => F (j : Int)) e len 0 s := by
  refine loop_iter (len := len) (f := fun j => F (j : Int)) (fun m j s hj => ?_) (fun m s => ?_) len 0 n s (by omega) hn
  · rw [h m (j : Int) s, lt_nat, wrap_succ (by omega)]
    simp [hj]
  · rw [h m _ s]
    simp
/-- Over a list's elements, with their places. -/
def foldI {α σ ρ : Type} (f : Int → α → σ → (σ → Option ρ) → Option ρ) (e : σ → Option ρ) : Nat → List α → σ → Option ρ
  | _, [], s => e s
  | j, x :: xs, s => f (j : Int) x s (foldI f e (j + 1) xs)
theorem iter_foldI {α σ ρ : Type} {a : List α} {d : α} {f : Int → α → σ → (σ → Option ρ) → Option ρ} {F : Int → σ → (σ → Option ρ) → Option ρ} {e : σ → Option ρ} (hF : ∀ j s c, j < a.length → F (j : Int) s c = f (j : Int) (a.getD j d) s c) :
    ∀ (n j : Nat) (s : σ), n + j = a.length → iter (fun j => F (j : Int)) e n j s = foldI f e j (a.drop j) s
  | 0, j, s, h => by rw [List.drop_of_length_le (by omega)]; rfl
  | n + 1, j, s, h => by
    have hj : j < a.length := by omega
    rw [List.drop_eq_getElem_cons hj]
    show F (j : Int) s _ = f (j : Int) a[j] s _
    rw [hF j s _ hj, List.getD_eq_getElem?_getD, List.getElem?_eq_getElem hj]
    show f (j : Int) a[j] s _ = _
    congr 1
    funext s'
    exact iter_foldI hF n (j + 1) s' (by omega)
theorem loop_l {α σ ρ : Type} {a : List α} {d : α} (hb : a.length ≤ big) {L : Nat → Int → σ → Option ρ} {f : Int → α → σ → (σ → Option ρ) → Option ρ} {e : σ → Option ρ}
    (h : ∀ m i s, L (m + 1) i s = cond (decide (i < (a.length : Int))) (cond (inRange i a.length) (f i (a.getD i.toNat d) s (fun s' => L m (IntKind.wrap .i64 (i + 1)) s')) none) (e s)) {n : Nat} {s : σ} (hn : a.length < n) : L n 0 s = foldI f e 0 a s := by
  rw [loop_n (F := fun i s c => cond (inRange i a.length) (f i (a.getD i.toNat d) s c) none) hb h hn]
  have := iter_foldI (d := d) (f := f) (F := fun i s c => cond (inRange i a.length) (f i (a.getD i.toNat d) s c) none) (e := e) (a := a) (fun j s c hj => by
    rw [inRange_nat]
    simp [hj]) a.length 0 s (by omega)
  rw [this, List.drop_zero]
theorem foldI_foldl {α σ ρ : Type} {f : Int → α → σ → (σ → Option ρ) → Option ρ} {e : σ → Option ρ} {g : σ → α → σ} (I : List α → σ → Prop) (hI : ∀ x xs s, I (x :: xs) s → I xs (g s x)) (hf : ∀ i x xs s c, I (x :: xs) s → f i x s c = c (g s x)) :
    ∀ (xs : List α) (j : Nat) (s : σ), I xs s → foldI f e j xs s = e (xs.foldl g s)
  | [], _, _, _ => rfl
  | x :: xs, j, s, h => by
    show f (j : Int) x s _ = _
    rw [hf _ x xs s _ h, foldI_foldl I hI hf xs (j + 1) _ (hI x xs s h)]
    rfl
theorem foldI_all {α σ ρ : Type} {f : Int → α → σ → (σ → Option ρ) → Option ρ} {e : σ → Option ρ} {p : α → Bool} {r : Option ρ} (I : α → Prop) (hf : ∀ i x s c, I x → f i x s c = cond (p x) (c s) r) :
    ∀ (xs : List α) (j : Nat) (s : σ), (∀ x ∈ xs, I x) → foldI f e j xs s = cond (xs.all p) (e s) r
  | [], _, _, _ => rfl
  | x :: xs, j, s, h => by
    show f (j : Int) x s _ = _
    rw [hf _ x s _ (h x (List.mem_cons_self ..)), foldI_all I hf xs (j + 1) s (fun y hy => h y (List.mem_cons_of_mem _ hy)), List.all_cons]
    cases p x <;> rfl
theorem foldI_any {α σ ρ : Type} {f : Int → α → σ → (σ → Option ρ) → Option ρ} {e : σ → Option ρ} {p : α → Bool} {r : Option ρ} (I : α → Prop) (hf : ∀ i x s c, I x → f i x s c = cond (p x) r (c s)) :
    ∀ (xs : List α) (j : Nat) (s : σ), (∀ x ∈ xs, I x) → foldI f e j xs s = cond (xs.any p) r (e s)
  | [], _, _, _ => rfl
  | x :: xs, j, s, h => by
    show f (j : Int) x s _ = _
    rw [hf _ x s _ (h x (List.mem_cons_self ..)), foldI_any I hf xs (j + 1) s (fun y hy => h y (List.mem_cons_of_mem _ hy)), List.any_cons]
    cases p x <;> rfl
/-- The place of the first element that p holds of; -1 if there is none. -/
def idxFrom {α : Type} (p : α → Bool) : Nat → List α → Int
  | _, [] => -1
  | j, x :: xs => cond (p x) (j : Int) (idxFrom p (j + 1) xs)
theorem foldI_idx {α σ ρ : Type} {f : Int → α → σ → (σ → Option ρ) → Option ρ} {e : σ → Option ρ} {p : α → Bool} {k : Int → Option ρ} (I : α → Prop) (hf : ∀ i x s c, I x → f i x s c = cond (p x) (k i) (c s)) (he : ∀ s, e s = k (-1)) :
    ∀ (xs : List α) (j : Nat) (s : σ), (∀ x ∈ xs, I x) → foldI f e j xs s = k (idxFrom p j xs)
  | [], _, s, _ => he s
  | x :: xs, j, s, h => by
    show f (j : Int) x s _ = _
    rw [hf _ x s _ (h x (List.mem_cons_self ..)), foldI_idx I hf he xs (j + 1) s (fun y hy => h y (List.mem_cons_of_mem _ hy))]
    show _ = k (cond (p x) (j : Int) (idxFrom p (j + 1) xs))
    cases p x <;> rfl
theorem foldI_map {α β ρ : Type} {f : Int → α → List β → (List β → Option ρ) → Option ρ} {e : List β → Option ρ} {h : α → β} (I : α → Prop) (N : Nat) (hf : ∀ i x out c, I x → out.length + 1 ≤ N → f i x out c = c (out ++ [h x])) :
    ∀ (xs : List α) (j : Nat) (out : List β), (∀ x ∈ xs, I x) → out.length + xs.length ≤ N → foldI f e j xs out = e (out ++ xs.map h)
  | [], _, out, _, _ => by rw [List.map_nil, List.append_nil]; rfl
  | x :: xs, j, out, hI, hN => by
    rw [List.length_cons] at hN
    show f (j : Int) x out _ = _
    rw [hf _ x out _ (hI x (List.mem_cons_self ..)) (by omega), foldI_map I N hf xs (j + 1) _ (fun y hy => hI y (List.mem_cons_of_mem _ hy)) (by rw [List.length_append]; simp; omega)]
    simp
/-- Appended where p holds. -/
theorem foldI_filter {α β ρ : Type} {f : Int → α → List β → (List β → Option ρ) → Option ρ} {e : List β → Option ρ} {h : α → Option β} (I : α → Prop) (N : Nat)
    (hf : ∀ i x out c, I x → out.length + 1 ≤ N → f i x out c = match h x with | some y => c (out ++ [y]) | none => c out) :
    ∀ (xs : List α) (j : Nat) (out : List β), (∀ x ∈ xs, I x) → out.length + xs.length ≤ N → foldI f e j xs out = e (out ++ xs.filterMap h)
  | [], _, out, _, _ => by rw [List.filterMap_nil, List.append_nil]; rfl
  | x :: xs, j, out, hI, hN => by
    rw [List.length_cons] at hN
    show f (j : Int) x out _ = _
    have hr := fun out' hl => foldI_filter (e := e) I N hf xs (j + 1) out' (fun y hy => hI y (List.mem_cons_of_mem _ hy)) hl
    rw [hf _ x out _ (hI x (List.mem_cons_self ..)) (by omega), List.filterMap_cons]
    cases hx : h x with
    | none => exact hr out (by omega)
    | some y =>
      show foldI f e (j + 1) xs (out ++ [y]) = _
      rw [hr _ (by rw [List.length_append]; simp; omega)]
      simp
/-- A row that is filled place by place. -/
theorem iter_copy {α β ρ : Type} {a : List α} {d : α} {h : α → β} {k : List β → Option ρ} {F : Int → List β → (List β → Option ρ) → Option ρ} (hF : ∀ j out c, j < a.length → out.length = a.length → F (j : Int) out c = c (out.set j (h (a.getD j d)))) :
    ∀ (n j : Nat) (out : List β), n + j = a.length → out.length = a.length → out.take j = (a.take j).map h → iter (fun j => F (j : Int)) k n j out = k (a.map h)
  | 0, j, out, hn, hl, ht => by
    have hj : j = a.length := by omega
    subst hj
    rw [List.take_of_length_le (by omega), List.take_length] at ht
    show k out = _
    rw [ht]
  | n + 1, j, out, hn, hl, ht => by
    have hj : j < a.length := by omega
    show F (j : Int) out _ = _
    rw [hF j out _ hj hl]
    refine iter_copy hF n (j + 1) _ (by omega) (by rw [List.length_set]; exact hl) ?_
    have e1 : a.getD j d = a[j] := by rw [List.getD_eq_getElem?_getD, List.getElem?_eq_getElem hj]; rfl
    rw [List.take_succ_eq_append_getElem (by rw [List.length_set]; omega), List.take_succ_eq_append_getElem hj, List.map_append, ← ht, e1, List.getElem_set_self]
    congr 1
    rw [List.take_set_of_le (Nat.le_refl j)]
theorem loop_copy {α β ρ : Type} {a : List α} {d : α} {z : β} {h : α → β} {k : List β → Option ρ} (hb : a.length ≤ big) {L : Nat → Int → List β → Option ρ} {F : Int → List β → (List β → Option ρ) → Option ρ}
    (hL : ∀ m i s, L (m + 1) i s = cond (decide (i < (a.length : Int))) (F i s (fun s' => L m (IntKind.wrap .i64 (i + 1)) s')) (k s)) (hF : ∀ j out c, j < a.length → out.length = a.length → F (j : Int) out c = c (out.set j (h (a.getD j d)))) {n : Nat} (hn : a.length < n) :
    L n 0 (List.replicate (Int.toNat (a.length : Int)) z) = k (a.map h) := by
  rw [loop_n hb hL hn]
  refine iter_copy hF a.length 0 _ (by omega) ?_ ?_
  · simp
  · simp
/-! Loops by their raw terms. -/
theorem raw_meas {σ ρ : Type} {L : Nat → σ → Option ρ} {R : σ → (σ → Option ρ) → Option ρ} (hL : ∀ m s, L (m + 1) s = R s (L m)) (I : σ → Prop) (μ : σ → Nat) (Res : σ → Option ρ)
    (h : ∀ s c, I s → (∀ s', I s' → μ s' < μ s → c s' = Res s') → R s c = Res s) : ∀ (n : Nat) (s : σ), I s → μ s < n → L n s = Res s
  | 0, _, _, hn => by omega
  | n + 1, s, hI, hn => by
    rw [hL n s]
    exact h s _ hI (fun s' hI' hlt => raw_meas hL I μ Res h n s' hI' (by omega))
/-- A loop that counts from 0 to len. -/
theorem raw_run {σ ρ : Type} {L : Nat → Int → σ → Option ρ} {R : Int → σ → (Int → σ → Option ρ) → Option ρ} (hL : ∀ m i s, L (m + 1) i s = R i s (L m)) (len : Nat) (I : Nat → σ → Prop) (Res : Nat → σ → Option ρ)
    (h1 : ∀ j s c, j < len → I j s → (∀ s', I (j + 1) s' → c ((j + 1 : Nat) : Int) s' = Res (j + 1) s') → R (j : Int) s c = Res j s) (h2 : ∀ s c, I len s → R (len : Int) s c = Res len s) :
    ∀ (d n j : Nat) (s : σ), d + j = len → d < n → I j s → L n (j : Int) s = Res j s
  | 0, 0, _, _, _, hn, _ => by omega
  | _ + 1, 0, _, _, _, hn, _ => by omega
  | 0, n + 1, j, s, hd, _, hI => by
    have : j = len := by omega
    subst this
    rw [hL]
    exact h2 s _ hI
  | d + 1, n + 1, j, s, hd, hn, hI => by
    rw [hL]
    exact h1 j s _ (by omega) hI (fun s' hI' => raw_run hL len I Res h1 h2 d n (j + 1) s' (by omega) (by omega) hI')
theorem raw_run0 {σ ρ : Type} {L : Nat → Int → σ → Option ρ} {R : Int → σ → (Int → σ → Option ρ) → Option ρ} (hL : ∀ m i s, L (m + 1) i s = R i s (L m)) (len : Nat) (I : Nat → σ → Prop) (Res : Nat → σ → Option ρ)
    (h1 : ∀ j s c, j < len → I j s → (∀ s', I (j + 1) s' → c ((j + 1 : Nat) : Int) s' = Res (j + 1) s') → R (j : Int) s c = Res j s) (h2 : ∀ s c, I len s → R (len : Int) s c = Res len s) {n : Nat} {s : σ} (hn : len < n) (hI : I 0 s) : L n 0 s = Res 0 s :=
  raw_run hL len I Res h1 h2 len n 0 s (by omega) hn hI
/-- The same, where only the rounds that can be are looked at. -/
theorem raw_steps {σ ρ : Type} {L : Nat → Int → σ → Option ρ} (len : Nat) (I : Nat → σ → Prop) (Res : Nat → σ → Option ρ)
    (h1 : ∀ m j s, j < len → I j s → (∀ s', I (j + 1) s' → L m ((j + 1 : Nat) : Int) s' = Res (j + 1) s') → L (m + 1) (j : Int) s = Res j s) (h2 : ∀ m s, I len s → L (m + 1) (len : Int) s = Res len s) :
    ∀ (d n j : Nat) (s : σ), d + j = len → d < n → I j s → L n (j : Int) s = Res j s
  | 0, 0, _, _, _, hn, _ => by omega
  | _ + 1, 0, _, _, _, hn, _ => by omega
  | 0, n + 1, j, s, hd, _, hI => by
    have : j = len := by omega
    subst this
    exact h2 n s hI
  | d + 1, n + 1, j, s, hd, hn, hI => h1 n j s (by omega) hI (fun s' hI' => raw_steps len I Res h1 h2 d n (j + 1) s' (by omega) (by omega) hI')
theorem drop_cons {α : Type} {a : List α} {j : Nat} (d : α) (h : j < a.length) : a.drop j = a.getD j d :: a.drop (j + 1) := by
  rw [List.drop_eq_getElem_cons h, List.getD_eq_getElem?_getD, List.getElem?_eq_getElem h]
  rfl
/-- Mapped, one behind the other. -/
theorem raw_map {α β ρ : Type} {a : List α} (d : α) (h : α → β) (N : Nat) {k : List β → Option ρ} {L : Nat → Int → List β → Option ρ} {R : Int → List β → (Int → List β → Option ρ) → Option ρ} (hL : ∀ m i s, L (m + 1) i s = R i s (L m))
    (h1 : ∀ j out c, j < a.length → out.length + 1 ≤ N → R (j : Int) out c = c ((j + 1 : Nat) : Int) (out ++ [h (a.getD j d)])) (h2 : ∀ out c, R (a.length : Int) out c = k out) (hN : a.length ≤ N) {n : Nat} (hn : a.length < n) : L n 0 [] = k (a.map h) := by
  have := raw_run0 hL a.length (fun j out => out.length + (a.length - j) ≤ N) (fun j out => k (out ++ (a.drop j).map h)) (fun j out c hj hI hc => by
    rw [h1 j out c hj (by omega), hc _ (by rw [List.length_append]; simp; omega), drop_cons d hj]
    simp) (fun out c hI => by rw [h2, List.drop_length]; simp) hn (s := []) (by simp; omega)
  rw [this]
  simp
theorem raw_foldl {α σ ρ : Type} {a : List α} (d : α) (g : σ → α → σ) {k : σ → Option ρ} {L : Nat → Int → σ → Option ρ} {R : Int → σ → (Int → σ → Option ρ) → Option ρ} (hL : ∀ m i s, L (m + 1) i s = R i s (L m)) (I : Nat → σ → Prop)
    (h1 : ∀ j s c, j < a.length → I j s → R (j : Int) s c = c ((j + 1 : Nat) : Int) (g s (a.getD j d))) (hI : ∀ j s, j < a.length → I j s → I (j + 1) (g s (a.getD j d))) (h2 : ∀ s c, R (a.length : Int) s c = k s) {n : Nat} {s : σ} (hn : a.length < n) (h0 : I 0 s) : L n 0 s = k (a.foldl g s) := by
  have := raw_run0 hL a.length I (fun j s => k ((a.drop j).foldl g s)) (fun j s c hj hi hc => by
    rw [h1 j s c hj hi, hc _ (hI j s hj hi), drop_cons d hj]
    rfl) (fun s c _ => by rw [h2, List.drop_length]; rfl) hn h0
  rw [this, List.drop_zero]
theorem raw_filter {α β ρ : Type} {a : List α} (d : α) (h : α → Option β) (N : Nat) {k : List β → Option ρ} {L : Nat → Int → List β → Option ρ} {R : Int → List β → (Int → List β → Option ρ) → Option ρ} (hL : ∀ m i s, L (m + 1) i s = R i s (L m))
    (h1 : ∀ j out c, j < a.length → out.length + 1 ≤ N → R (j : Int) out c = c ((j + 1 : Nat) : Int) (match h (a.getD j d) with | some y => out ++ [y] | none => out)) (h2 : ∀ out c, R (a.length : Int) out c = k out) (hN : a.length ≤ N) {n : Nat} (hn : a.length < n) : L n 0 [] = k (a.filterMap h) := by
  have := raw_run0 hL a.length (fun j out => out.length + (a.length - j) ≤ N) (fun j out => k (out ++ (a.drop j).filterMap h)) (fun j out c hj hI hc => by
    rw [h1 j out c hj (by omega), drop_cons d hj, List.filterMap_cons]
    cases h (a.getD j d) with
    | none => exact hc out (by omega)
    | some y =>
      show c _ (out ++ [y]) = _
      rw [hc _ (by rw [List.length_append]; simp; omega)]
      simp) (fun out c hI => by rw [h2, List.drop_length]; simp) hn (s := []) (by simp; omega)
  rw [this]
  simp
theorem raw_all {α σ ρ : Type} {a : List α} (d : α) (p : α → Bool) {r : Option ρ} {e : σ → Option ρ} {L : Nat → Int → σ → Option ρ} {R : Int → σ → (Int → σ → Option ρ) → Option ρ} (hL : ∀ m i s, L (m + 1) i s = R i s (L m))
    (h1 : ∀ j s c, j < a.length → R (j : Int) s c = cond (p (a.getD j d)) (c ((j + 1 : Nat) : Int) s) r) (h2 : ∀ s c, R (a.length : Int) s c = e s) {n : Nat} {s : σ} (hn : a.length < n) : L n 0 s = cond (a.all p) (e s) r := by
  have := raw_run0 hL a.length (fun _ _ => True) (fun j s => cond ((a.drop j).all p) (e s) r) (fun j s c hj hi hc => by
    rw [h1 j s c hj, hc _ trivial, drop_cons d hj, List.all_cons]
    cases p (a.getD j d) <;> rfl) (fun s c _ => by rw [h2, List.drop_length]; rfl) hn (s := s) trivial
  rw [this, List.drop_zero]
theorem raw_any {α σ ρ : Type} {a : List α} (d : α) (p : α → Bool) {r : Option ρ} {e : σ → Option ρ} {L : Nat → Int → σ → Option ρ} {R : Int → σ → (Int → σ → Option ρ) → Option ρ} (hL : ∀ m i s, L (m + 1) i s = R i s (L m))
    (h1 : ∀ j s c, j < a.length → R (j : Int) s c = cond (p (a.getD j d)) r (c ((j + 1 : Nat) : Int) s)) (h2 : ∀ s c, R (a.length : Int) s c = e s) {n : Nat} {s : σ} (hn : a.length < n) : L n 0 s = cond (a.any p) r (e s) := by
  have := raw_run0 hL a.length (fun _ _ => True) (fun j s => cond ((a.drop j).any p) r (e s)) (fun j s c hj hi hc => by
    rw [h1 j s c hj, hc _ trivial, drop_cons d hj, List.any_cons]
    cases p (a.getD j d) <;> rfl) (fun s c _ => by rw [h2, List.drop_length]; rfl) hn (s := s) trivial
  rw [this, List.drop_zero]
theorem raw_idx {α σ ρ : Type} {a : List α} (d : α) (p : α → Bool) {k : Int → Option ρ} {L : Nat → Int → σ → Option ρ} {R : Int → σ → (Int → σ → Option ρ) → Option ρ} (hL : ∀ m i s, L (m + 1) i s = R i s (L m))
    (h1 : ∀ j s c, j < a.length → R (j : Int) s c = cond (p (a.getD j d)) (k (j : Int)) (c ((j + 1 : Nat) : Int) s)) (h2 : ∀ s c, R (a.length : Int) s c = k (-1)) {n : Nat} {s : σ} (hn : a.length < n) : L n 0 s = k (idxFrom p 0 a) := by
  have := raw_run0 hL a.length (fun _ _ => True) (fun j s => k (idxFrom p j (a.drop j))) (fun j s c hj hi hc => by
    rw [h1 j s c hj, hc _ trivial, drop_cons d hj]
    show _ = k (cond (p (a.getD j d)) (j : Int) (idxFrom p (j + 1) (a.drop (j + 1))))
    cases p (a.getD j d) <;> rfl) (fun s c _ => by rw [h2, List.drop_length]; rfl) hn (s := s) trivial
  rw [this, List.drop_zero]
theorem raw_copy {α β ρ : Type} {a : List α} (d : α) (z : β) (h : α → β) {k : List β → Option ρ} {L : Nat → Int → List β → Option ρ} {R : Int → List β → (Int → List β → Option ρ) → Option ρ} (hL : ∀ m i s, L (m + 1) i s = R i s (L m))
    (h1 : ∀ j out c, j < a.length → out.length = a.length → R (j : Int) out c = c ((j + 1 : Nat) : Int) (out.set j (h (a.getD j d)))) (h2 : ∀ s c, R (a.length : Int) s c = k s) {n : Nat} (hn : a.length < n) : L n 0 (List.replicate (Int.toNat (a.length : Int)) z) = k (a.map h) := by
  have := raw_run0 hL a.length (fun j out => out.length = a.length ∧ out.take j = (a.take j).map h) (fun j out => k (a.map h)) (fun j out c hj hi hc => by
    rw [h1 j out c hj hi.1]
    refine hc _ ⟨by rw [List.length_set]; exact hi.1, ?_⟩
    have e1 : a.getD j d = a[j] := by rw [List.getD_eq_getElem?_getD, List.getElem?_eq_getElem hj]; rfl
    rw [List.take_succ_eq_append_getElem (by rw [List.length_set]; omega), List.take_succ_eq_append_getElem hj, List.map_append, ← hi.2, e1, List.getElem_set_self]
    congr 1
    rw [List.take_set_of_le (Nat.le_refl j)]) (fun out c hi => by
    rw [h2]
    have h3 := hi.2
    rw [List.take_of_length_le (by omega), List.take_length] at h3
    rw [h3]) hn (s := List.replicate (Int.toNat (a.length : Int)) z) ⟨by simp, by simp⟩
  exact this
theorem getD_mem {α : Type} {a : List α} {j : Nat} {d : α} (h : j < a.length) : a.getD j d ∈ a := by
  rw [List.getD_eq_getElem?_getD, List.getElem?_eq_getElem h]
  exact List.getElem_mem h
end Go.Proofs.Ytaghpijciobacaa.Ref

/-! ## PM -/
namespace Go.Proofs.Ytaghpijciobacaa.Ref
open Go.RowKit Go.Proofs.YtaghpijciobacaaW.PrintWords Go.Proofs.YtaghpijciobacaaW.PrintLast

abbrev TSig := Int × Int
abbrev TKeys := List Int × Int
abbrev TEntry := ByteArray × (Int × (Int × List ByteArray))
abbrev TProof := Int × List Int
abbrev TGap := Int × (TEntry × (TEntry × (TProof × TProof)))
abbrev THead := Int × (Int × (Int × (Int × (Int × (Int × (Int × (Int × (TKeys × (TKeys × (Int × (TKeys × Bool)))))))))))
abbrev TSigned := THead × List TSig
abbrev zEntry : TEntry := (ByteArray.empty, (0, (0, [])))

/-! ### Weights, as the laws count them -/
def wsum {α : Type} (wt : α → Nat) : List α → Nat
  | [] => 0
  | x :: xs => wt x + wsum wt xs
def wP (p : List ByteArray) : Nat := p.length + wsum ByteArray.size p
def wE (e : TEntry) : Nat := e.1.size + wP e.2.2.2
def wEs (l : List TEntry) : Nat := l.length + wsum wE l
def wK (k : TKeys) : Nat := k.1.length
def wH (h : THead) : Nat := wK h.2.2.2.2.2.2.2.2.1 + (wK h.2.2.2.2.2.2.2.2.2.1 + wK h.2.2.2.2.2.2.2.2.2.2.2.1)
def wSd (s : TSigned) : Nat := wH s.1 + s.2.length
def wSds (l : List TSigned) : Nat := l.length + wsum wSd l
def wPr (p : TProof) : Nat := p.2.length
def wG (g : TGap) : Nat := wE g.2.1 + (wE g.2.2.1 + (wPr g.2.2.2.1 + wPr g.2.2.2.2))
theorem wsum_mem {α : Type} {wt : α → Nat} {x : α} {xs : List α} (h : x ∈ xs) : wt x ≤ wsum wt xs := by
  induction xs with
  | nil => cases h
  | cons y ys ih =>
    rcases List.mem_cons.1 h with rfl | h
    · unfold wsum; omega
    · have := ih h
      unfold wsum; omega
/-- What is left, or -1. -/
def sub1 (w : Nat) (left : Int) : Int := if (w : Int) ≤ left then left - w else -1
theorem sub1_neg {w : Nat} {left : Int} (h0 : 0 ≤ left) : (sub1 w left < 0) ↔ left < (w : Int) := by
  unfold sub1; split <;> omega
theorem sub1_pos {w : Nat} {left : Int} (h : (w : Int) ≤ left) : sub1 w left = left - w := by
  unfold sub1; rw [if_pos h]
theorem sub1_range {w : Nat} {left : Int} (h0 : 0 ≤ left) (h1 : left ≤ 1048576) : ¬ sub1 w left < 0 → 0 ≤ sub1 w left ∧ sub1 w left ≤ 1048576 ∧ w ≤ 1048576 := by
  unfold sub1; split <;> omega
theorem sub1_add {w v : Nat} {left : Int} (h0 : 0 ≤ left) : sub1 (w + v) left = if sub1 w left < 0 then -1 else sub1 v (sub1 w left) := by
  unfold sub1; repeat' split
  all_goals omega
abbrev gL (left : Int) : Bool := decide (0 ≤ left) && decide (left ≤ 1048576)
theorem gL_of {w : Nat} {left : Int} (g : gL left = true) (h : ¬ sub1 w left < 0) : gL (sub1 w left) = true := by
  simp only [gL, Bool.and_eq_true, decide_eq_true_eq] at g ⊢
  have := sub1_range g.1 g.2 h
  exact ⟨this.1, this.2.1⟩
theorem sz_then {ρ : Type} {k : Int → Option ρ} {w v : Nat} {left : Int} (g : gL left = true) {c : Option ρ} (hc : gL (sub1 w left) = true → c = k (sub1 v (sub1 w left))) : cond (decide (sub1 w left < 0)) (k (-1)) c = k (sub1 (w + v) left) := by
  have g' : 0 ≤ left ∧ left ≤ 1048576 := by simpa only [gL, Bool.and_eq_true, decide_eq_true_eq] using g
  rw [sub1_add g'.1]
  by_cases h : sub1 w left < 0
  · simp [h]
  · simp [h, hc (gL_of g h)]
theorem sz_last {ρ : Type} {k : Int → Option ρ} {w : Nat} {left : Int} : cond (decide (sub1 w left < 0)) (k (-1)) (k (sub1 w left)) = k (sub1 w left) := by
  by_cases h : sub1 w left < 0
  · have : sub1 w left = -1 := by
      unfold sub1 at h ⊢
      split at h
      · omega
      · rw [if_neg (by assumption)]
    simp [this]
  · simp [h]
theorem wrap_sub {a b : Int} (h0 : 0 ≤ a) (h1 : a ≤ 1048576) (h2 : 0 ≤ b) (h3 : b ≤ 9223372036854775807) : IntKind.wrap .i64 (a - b) = a - b := wrap_id (by omega) (by omega)
/-- The first step of a count: a length is taken off. -/
theorem sz_first {ρ : Type} {k : Int → Option ρ} {w v : Nat} {left : Int} (g : gL left = true) (hw : w ≤ 9223372036854775807) {c : Int → Option ρ} (hc : gL (sub1 w left) = true → c (sub1 w left) = k (sub1 v (sub1 w left))) :
    cond (decide (IntKind.wrap .i64 (left - (w : Int)) < 0)) (k (-1)) (c (IntKind.wrap .i64 (left - (w : Int)))) = k (sub1 (w + v) left) := by
  have g' : 0 ≤ left ∧ left ≤ 1048576 := by simpa only [gL, Bool.and_eq_true, decide_eq_true_eq] using g
  rw [wrap_sub g'.1 g'.2 (by omega) (by omega)]
  by_cases h : left < (w : Int)
  · have e1 : decide (left - (w : Int) < 0) = true := by simp; omega
    have e2 : sub1 (w + v) left = -1 := by unfold sub1; rw [if_neg (by omega)]
    rw [e1, e2]
    rfl
  · have e1 : decide (left - (w : Int) < 0) = false := by simp; omega
    have e2 : sub1 w left = left - w := sub1_pos (by omega)
    have e3 : ¬ sub1 w left < 0 := by omega
    rw [e1, sub1_add g'.1, if_neg e3, ← e2]
    exact hc (gL_of g e3)
theorem foldI_sz {α ρ : Type} {f : Int → α → Int → (Int → Option ρ) → Option ρ} {e : Int → Option ρ} {k : Int → Option ρ} {wt : α → Nat} (I : α → Prop) (hf : ∀ i x s c, I x → 0 ≤ s → s ≤ 1048576 → f i x s c = cond (decide (s < (wt x : Int))) (k (-1)) (c (s - wt x))) (he : ∀ s, e s = k s) :
    ∀ (xs : List α) (j : Nat) (s : Int), (∀ x ∈ xs, I x) → 0 ≤ s → s ≤ 1048576 → foldI f e j xs s = k (sub1 (wsum wt xs) s)
  | [], _, s, _, h0, _ => by
    show e s = _
    rw [he]
    unfold wsum sub1
    rw [if_pos (by omega)]
    congr 1
    omega
  | x :: xs, j, s, hI, h0, h1 => by
    show f (j : Int) x s _ = _
    rw [hf _ x s _ (hI x (List.mem_cons_self ..)) h0 h1]
    by_cases hlt : s < (wt x : Int)
    · have : sub1 (wsum wt (x :: xs)) s = -1 := by unfold wsum sub1; rw [if_neg (by omega)]
      simp [hlt, this]
    · have hr := foldI_sz I hf he xs (j + 1) (s - wt x) (fun y hy => hI y (List.mem_cons_of_mem _ hy)) (by omega) (by omega)
      simp only [hlt, decide_false, cond_false, hr]
      congr 1
      show sub1 (wsum wt xs) (s - wt x) = sub1 (wt x + wsum wt xs) s
      generalize wsum wt xs = u
      unfold sub1
      repeat' split
      all_goals omega

/-! ### Equality -/
def eqStr (a b : ByteArray) : Bool := a.toList == b.toList
abbrev eqInts (a b : List Int) : Bool := eqL (fun x y => x == y) 0 a b
abbrev eqStrs (a b : List ByteArray) : Bool := eqL eqStr ByteArray.empty a b
def eqSig (a b : TSig) : Bool := a.1 == b.1 && a.2 == b.2
abbrev eqSigs (a b : List TSig) : Bool := eqL eqSig (0, 0) a b
def eqKeys (a b : TKeys) : Bool := eqInts a.1 b.1 && a.2 == b.2
def eqEntry (a b : TEntry) : Bool := eqStr a.1 b.1 && (a.2.1 == b.2.1 && (a.2.2.1 == b.2.2.1 && eqStrs a.2.2.2 b.2.2.2))
abbrev eqEntries (a b : List TEntry) : Bool := eqL eqEntry (ByteArray.empty, (0, (0, []))) a b
def eqProof (a b : TProof) : Bool := a.1 == b.1 && eqInts a.2 b.2
def eqGap (a b : TGap) : Bool := a.1 == b.1 && (eqEntry a.2.1 b.2.1 && (eqEntry a.2.2.1 b.2.2.1 && (eqProof a.2.2.2.1 b.2.2.2.1 && eqProof a.2.2.2.2 b.2.2.2.2)))
def eqHead (a b : THead) : Bool := a.1 == b.1 && (a.2.1 == b.2.1 && (a.2.2.1 == b.2.2.1 && (a.2.2.2.1 == b.2.2.2.1 && (a.2.2.2.2.1 == b.2.2.2.2.1 && (a.2.2.2.2.2.1 == b.2.2.2.2.2.1 && (a.2.2.2.2.2.2.1 == b.2.2.2.2.2.2.1 && (a.2.2.2.2.2.2.2.1 == b.2.2.2.2.2.2.2.1 &&
  (eqKeys a.2.2.2.2.2.2.2.2.1 b.2.2.2.2.2.2.2.2.1 && (eqKeys a.2.2.2.2.2.2.2.2.2.1 b.2.2.2.2.2.2.2.2.2.1 && (a.2.2.2.2.2.2.2.2.2.2.1 == b.2.2.2.2.2.2.2.2.2.2.1 && (eqKeys a.2.2.2.2.2.2.2.2.2.2.2.1 b.2.2.2.2.2.2.2.2.2.2.2.1 && a.2.2.2.2.2.2.2.2.2.2.2.2 == b.2.2.2.2.2.2.2.2.2.2.2.2)))))))))))
def eqSigned (a b : TSigned) : Bool := eqHead a.1 b.1 && eqSigs a.2 b.2
theorem eqStr_refl (a : ByteArray) : eqStr a a = true := by unfold eqStr; simp
theorem eqInts_refl (a : List Int) : eqInts a a = true := eqL_refl (fun x => by simp) a
theorem eqStrs_refl (a : List ByteArray) : eqStrs a a = true := eqL_refl eqStr_refl a
theorem eqSig_refl (a : TSig) : eqSig a a = true := by unfold eqSig; simp
theorem eqSigs_refl (a : List TSig) : eqSigs a a = true := eqL_refl eqSig_refl a
theorem eqKeys_refl (a : TKeys) : eqKeys a a = true := by unfold eqKeys; rw [eqInts_refl]; simp
theorem eqEntry_refl (a : TEntry) : eqEntry a a = true := by unfold eqEntry; rw [eqStr_refl, eqStrs_refl]; simp
theorem eqEntries_refl (a : List TEntry) : eqEntries a a = true := eqL_refl eqEntry_refl a
theorem eqProof_refl (a : TProof) : eqProof a a = true := by unfold eqProof; rw [eqInts_refl]; simp
theorem eqGap_refl (a : TGap) : eqGap a a = true := by unfold eqGap; rw [eqEntry_refl, eqEntry_refl, eqProof_refl, eqProof_refl]; simp
theorem eqHead_refl (a : THead) : eqHead a a = true := by unfold eqHead; rw [eqKeys_refl, eqKeys_refl, eqKeys_refl]; simp
theorem eqSigned_refl (a : TSigned) : eqSigned a a = true := by unfold eqSigned; rw [eqHead_refl, eqSigs_refl]; simp
theorem eqSignedS_refl {d : TSigned} (a : List TSigned) : eqL eqSigned d a a = true := eqL_refl eqSigned_refl a
/-- The comparison of two lists, as it stands in the code. -/
theorem eq_all {α ρ : Type} {p : α → α → Bool} {d : α} {k : Bool → Option ρ} {a b : List α} (hb : a.length ≤ big) {L : Nat → Int → Option ρ}
    (h : ∀ m i, L (m + 1) i = cond (decide (i < (a.length : Int))) (cond (inRange i a.length) (cond (inRange i b.length) (cond (!(p (a.getD i.toNat d) (b.getD i.toNat d))) (k false) (L m (IntKind.wrap .i64 (i + 1)))) none) none) (k true))
    {n : Nat} (hn : a.length < n) : cond ((a.length : Int) != (b.length : Int)) (k false) (L n 0) = k (eqL p d a b) := by
  by_cases hab : a.length = b.length
  · have h1 : ((a.length : Int) != (b.length : Int)) = false := by simp [hab]
    rw [h1]
    exact loop_eqL hab hb h hn
  · have h1 : ((a.length : Int) != (b.length : Int)) = true := by
      simp
      omega
    have h2 : (a.length == b.length) = false := by simp [hab]
    rw [h1]
    unfold eqL
    rw [h2]
    rfl

/-! ### Integers and hashes -/
def inR (n lo hi : Int) : Bool := decide (lo ≤ n) && decide (n ≤ hi)
def modM (n m : Int) : Int := cond (inR m 1 1000000000000) (Int.tmod (IntKind.wrap .i64 (Int.tmod n m + m)) m) 0
def hashStep (acc v : Int) : Int := Int.tmod (IntKind.wrap .i64 (IntKind.wrap .i64 (IntKind.wrap .i64 (acc * 1000003) + modM v 2147483647) + 13)) 2147483647
def hash (l : List Int) : Int := l.foldl hashStep 11
def keyedHash (key : Int) (l : List Int) : Int := hash (key :: (l ++ [key]))
def bytesInts (b : List Int) : List Int := (b.length : Int) :: b.map (IntKind.wrap .i64)
def labelInts (s : ByteArray) : List Int := bytesInts (bytesOf s)
def keysInts (k : TKeys) : List Int := k.2 :: (k.1.length : Int) :: k.1
def entryInts (e : TEntry) : List Int := (labelInts e.1 ++ [e.2.1, e.2.2.1, (e.2.2.2.length : Int)]) ++ e.2.2.2.flatMap labelInts
def leafOf (e : TEntry) : Int := hash (227 :: entryInts e)
def nodeOf (a b : Int) : Int := hash [229, a, b]
def zoneOf (k : TKeys) (salt : Int) : Int := hash (239 :: salt :: keysInts k)
def bitOf (b : Bool) : Int := cond b 1 0
def headInts (h : THead) : List Int := [h.1, h.2.1, h.2.2.1, h.2.2.2.1, h.2.2.2.2.1, h.2.2.2.2.2.1, h.2.2.2.2.2.2.1, h.2.2.2.2.2.2.2.1] ++ (keysInts h.2.2.2.2.2.2.2.2.1 ++ (keysInts h.2.2.2.2.2.2.2.2.2.1 ++
  ([h.2.2.2.2.2.2.2.2.2.2.1] ++ (keysInts h.2.2.2.2.2.2.2.2.2.2.2.1 ++ [bitOf h.2.2.2.2.2.2.2.2.2.2.2.2]))))
def headDigest (h : THead) : Int := hash (233 :: headInts h)
theorem labelInts_len (s : ByteArray) : (labelInts s).length = s.size + 1 := by
  unfold labelInts bytesInts
  rw [List.length_cons, List.length_map, bytesOf_length]
theorem flatLabels_len (p : List ByteArray) : (p.flatMap labelInts).length = wP p := by
  induction p with
  | nil => rfl
  | cons s p ih =>
    rw [List.flatMap_cons, List.length_append, ih, labelInts_len]
    unfold wP
    rw [List.length_cons]
    show _ = _ + (s.size + wsum ByteArray.size p)
    omega
theorem entryInts_len (e : TEntry) : (entryInts e).length = wE e + 4 := by
  unfold entryInts
  rw [List.length_append, List.length_append, flatLabels_len, labelInts_len]
  unfold wE
  simp
  omega
theorem keysInts_len (k : TKeys) : (keysInts k).length = wK k + 2 := rfl
theorem headInts_len (h : THead) : (headInts h).length = wH h + 16 := by
  unfold headInts wH
  simp only [List.length_append, keysInts_len, List.length_cons, List.length_nil]
  omega

/-! ### Trees -/
def up : List Int → List Int
  | [] => []
  | [x] => [x]
  | x :: y :: r => nodeOf x y :: up r
theorem up_len : ∀ l : List Int, (up l).length = (l.length + 1) / 2
  | [] => by simp [up]
  | [x] => by simp [up]
  | x :: y :: r => by
    show (up r).length + 1 = (r.length + 1 + 1 + 1) / 2
    rw [up_len r]
    omega
/-- The top of a tree that is not empty; n: how many levels at most. -/
def topN : Nat → List Int → Int
  | 0, l => l.getD 0 0
  | n + 1, l => cond (decide (1 < l.length)) (topN n (up l)) (l.getD 0 0)
def topOf (l : List Int) : Int := cond (decide (l.length = 0)) (hash [229]) (topN l.length l)
theorem topN_more : ∀ (n m : Nat) (l : List Int), l.length ≤ n + 1 → l.length ≤ m + 1 → topN n l = topN m l
  | 0, 0, _, _, _ => rfl
  | 0, m + 1, l, h, _ => by
    show l.getD 0 0 = cond (decide (1 < l.length)) _ _
    have : decide (1 < l.length) = false := by simp; omega
    rw [this]; rfl
  | n + 1, 0, l, _, h => by
    show cond (decide (1 < l.length)) _ _ = l.getD 0 0
    have : decide (1 < l.length) = false := by simp; omega
    rw [this]; rfl
  | n + 1, m + 1, l, h1, h2 => by
    show cond (decide (1 < l.length)) (topN n (up l)) _ = cond (decide (1 < l.length)) (topN m (up l)) _
    by_cases h : 1 < l.length
    · have := up_len l
      rw [topN_more n m (up l) (by omega) (by omega)]
    · have : decide (1 < l.length) = false := by simpa using h
      rw [this]; rfl
theorem tmod2 (i : Nat) : Int.tmod (i : Int) 2 = ((i % 2 : Nat) : Int) := by
  rw [Int.tmod_eq_emod_of_nonneg (by omega)]
  omega
theorem tdiv2 {i : Nat} (h : i ≤ 9223372036854775807) : IntKind.wrap .i64 (Int.tdiv (i : Int) 2) = ((i / 2 : Nat) : Int) := by
  rw [Int.tdiv_eq_ediv_of_nonneg (by omega), wrap_id (by omega) (by omega)]
  omega
def rootOf (l : List TEntry) : Int := hash [231, (l.length : Int), topOf (l.map leafOf)]
def rootFrom (n top : Int) : Int := hash [231, n, top]
/-- The neighbour of a place. -/
def sib (i : Nat) : Nat := if i % 2 = 0 then i + 1 else i - 1
def pathN : Nat → Nat → List Int → List Int
  | 0, _, _ => []
  | n + 1, i, l => cond (decide (1 < l.length)) ((cond (decide (sib i < l.length)) [l.getD (sib i) 0] []) ++ pathN n (i / 2) (up l)) []
theorem pathN_more : ∀ (n m i : Nat) (l : List Int), l.length ≤ n + 1 → l.length ≤ m + 1 → pathN n i l = pathN m i l
  | 0, 0, _, _, _, _ => rfl
  | 0, m + 1, i, l, h, _ => by
    have : decide (1 < l.length) = false := by simp; omega
    simp [pathN, this]
  | n + 1, 0, i, l, _, h => by
    have : decide (1 < l.length) = false := by simp; omega
    simp [pathN, this]
  | n + 1, m + 1, i, l, h1, h2 => by
    unfold pathN
    by_cases h : 1 < l.length
    · have := up_len l
      rw [pathN_more n m (i / 2) (up l) (by omega) (by omega)]
    · rw [decide_eq_false h]; rfl
theorem xor_one (i : Nat) : i ^^^ 1 = sib i := by
  unfold sib
  have h := Nat.div_add_mod i 2
  rcases Nat.mod_two_eq_zero_or_one i with h0 | h1
  · rw [if_pos h0]
    apply Nat.eq_of_testBit_eq
    intro j
    rw [Nat.testBit_xor]
    cases j with
    | zero =>
      have h2 : (i + 1) % 2 = 1 := by omega
      simp [Nat.testBit_zero, h0, h2]
    | succ j =>
      simp only [Nat.testBit_succ]
      have : (i + 1) / 2 = i / 2 := by omega
      rw [this]
      simp
  · rw [if_neg (by omega)]
    apply Nat.eq_of_testBit_eq
    intro j
    rw [Nat.testBit_xor]
    cases j with
    | zero =>
      have h2 : (i - 1) % 2 = 0 := by omega
      simp [Nat.testBit_zero, h1, h2]
    | succ j =>
      simp only [Nat.testBit_succ]
      have : (i - 1) / 2 = i / 2 := by omega
      rw [this]
      simp
theorem xor_sib {i : Nat} (h : i ≤ 4611686018427387904) : xorI .i64 (i : Int) 1 = ((sib i : Nat) : Int) := by
  have hs : sib i ≤ i + 1 := by unfold sib; split <;> omega
  have e1 : (BitVec.ofInt 64 (i : Int)).toNat = i := by simp; omega
  have e2 : (BitVec.ofInt 64 1).toNat = 1 := by decide
  show IntKind.wrap .i64 ((BitVec.ofInt 64 (i : Int) ^^^ BitVec.ofInt 64 1).toNat : Int) = _
  rw [BitVec.toNat_xor, e1, e2, xor_one, wrap_id (by omega) (by omega)]
def pathFor (l : List Int) (i : Int) : List Int := cond (inR i 0 ((l.length : Int) - 1)) (pathN l.length i.toNat l) []
/-- The top from a leaf; n: how many are in the row; f: how many levels at most. -/
def tfN : Nat → Int → Nat → Nat → List Int → Option Int
  | 0, leaf, _, _, path => cond (path.length == 0) (some leaf) none
  | f + 1, leaf, i, n, path => cond (decide (1 < n))
      (cond (decide (sib i < n))
        (match path with
          | [] => none
          | p :: ps => tfN f (cond (decide (i % 2 = 0)) (nodeOf leaf p) (nodeOf p leaf)) (i / 2) ((n + 1) / 2) ps)
        (tfN f leaf (i / 2) ((n + 1) / 2) path))
      (cond (path.length == 0) (some leaf) none)
theorem tfN_more : ∀ (f f' : Nat) (leaf : Int) (i n : Nat) (path : List Int), n ≤ f + 1 → n ≤ f' + 1 → tfN f leaf i n path = tfN f' leaf i n path
  | 0, 0, _, _, _, _, _, _ => rfl
  | 0, f' + 1, leaf, i, n, path, h, _ => by
    have : decide (1 < n) = false := by simp; omega
    simp [tfN, this]
  | f + 1, 0, leaf, i, n, path, _, h => by
    have : decide (1 < n) = false := by simp; omega
    simp [tfN, this]
  | f + 1, f' + 1, leaf, i, n, path, h1, h2 => by
    unfold tfN
    by_cases h : 1 < n
    · rw [tfN_more f f' leaf (i / 2) ((n + 1) / 2) path (by omega) (by omega)]
      cases path with
      | nil => rfl
      | cons p ps => dsimp only; rw [tfN_more f f' _ (i / 2) ((n + 1) / 2) ps (by omega) (by omega)]
    · rw [decide_eq_false h]; rfl
def tfRes : Option Int → Int × Bool
  | some t => (t, true)
  | none => (0, false)
def topFrom (leaf i n : Int) (path : List Int) : Int × Bool := cond (inR n 1 12 && inR i 0 (n - 1)) (tfRes (tfN n.toNat leaf i.toNat n.toNat path)) (0, false)

/-! ### Labels and paths -/
def isLetter (c : Int) : Bool := (decide (97 ≤ c) && decide (c ≤ 122)) || (decide (48 ≤ c) && decide (c ≤ 57))
def okByte (s : ByteArray) (j : Nat) : Bool := isLetter (bt s (j : Int)) || (bt s (j : Int) == 45 && (decide (0 < j) && decide (j + 1 < s.size)))
/-- n bytes from place j on are letters, digits or, inside, a dash. -/
def labelBytes (s : ByteArray) : Nat → Nat → Bool
  | 0, _ => true
  | n + 1, j => okByte s j && labelBytes s n (j + 1)
def isLabel (s : ByteArray) : Bool := inR s.size 1 8 && labelBytes s s.size 0
def isPath (p : List ByteArray) : Bool := inR p.length 1 4 && p.all isLabel
def cmpStr (a b : ByteArray) : Int := cond (Op.bytesLess a.toList b.toList) (-1) (cond (a.toList == b.toList) 0 1)
theorem compareBytes_eq : ∀ a b : List UInt8, Lib.compareBytes a b = cond (Op.bytesLess a b) (-1) (cond (a == b) 0 1)
  | [], [] => rfl
  | [], _ :: _ => rfl
  | _ :: _, [] => rfl
  | x :: a, y :: b => by
    unfold Lib.compareBytes Op.bytesLess
    by_cases h1 : x < y
    · simp [h1]
    · by_cases h2 : y < x
      · have h3 : (x == y) = false := beq_false_of_ne (fun e => by subst e; exact h1 h2)
        simp [h1, h2, h3]
      · have h3 : x = y := UInt8.le_antisymm (UInt8.not_lt.1 h2) (UInt8.not_lt.1 h1)
        subst h3
        simp [h1, compareBytes_eq a b]
theorem cmp_data (a b : ByteArray) : Lib.compareBytes a.data.toList b.data.toList = cmpStr a b := by
  unfold cmpStr
  rw [compareBytes_eq, ByteArray.toList_eq, ByteArray.toList_eq]
theorem cmpStr_neg (a b : ByteArray) : decide (cmpStr a b < 0) = (cmpStr a b == -1) := by
  unfold cmpStr
  cases Op.bytesLess a.toList b.toList
  · cases a.toList == b.toList <;> rfl
  · rfl
theorem cmpStr_pos (a b : ByteArray) : decide (cmpStr a b > 0) = (cmpStr a b == 1) := by
  unfold cmpStr
  cases Op.bytesLess a.toList b.toList
  · cases a.toList == b.toList <;> rfl
  · rfl
theorem cmpStr_swap (a b : ByteArray) : decide (cmpStr b a ≤ 0) = !(cmpStr a b == -1) := by
  rw [← cmp_data, ← cmp_data]
  generalize a.data.toList = x
  generalize b.data.toList = y
  induction x generalizing y with
  | nil => cases y <;> rfl
  | cons u x ih =>
    cases y with
    | nil => rfl
    | cons v y =>
      unfold Lib.compareBytes
      by_cases h1 : u < v
      · have h2 : ¬ v < u := fun h => absurd (UInt8.lt_trans h1 h) (UInt8.lt_irrefl u)
        simp [h1, h2]
      · by_cases h2 : v < u
        · simp [h1, h2]
        · simp only [h1, h2, if_false]
          exact ih y
theorem labelBytes_iff {s : ByteArray} : ∀ (n j : Nat), labelBytes s n j = true ↔ ∀ i, j ≤ i → i < j + n → okByte s i = true
  | 0, j => ⟨fun _ i h1 h2 => by omega, fun _ => rfl⟩
  | n + 1, j => by
    unfold labelBytes
    rw [Bool.and_eq_true, labelBytes_iff n (j + 1)]
    constructor
    · rintro ⟨h1, h2⟩ i h3 h4
      by_cases e : i = j
      · subst e; exact h1
      · exact h2 i (by omega) (by omega)
    · intro h
      exact ⟨h j (Nat.le_refl j) (by omega), fun i h3 h4 => h i (by omega) (by omega)⟩

/-- n bytes from place j on are letters, digits or dashes. -/
def charsFrom (s : ByteArray) : Nat → Nat → Bool
  | 0, _ => true
  | n + 1, j => (isLetter (bt s (j : Int)) || bt s (j : Int) == 45) && charsFrom s n (j + 1)
theorem charsFrom_iff {s : ByteArray} : ∀ (n j : Nat), charsFrom s n j = true ↔ ∀ i, j ≤ i → i < j + n → (isLetter (bt s (i : Int)) || bt s (i : Int) == 45) = true
  | 0, j => ⟨fun _ i h1 h2 => by omega, fun _ => rfl⟩
  | n + 1, j => by
    unfold charsFrom
    rw [Bool.and_eq_true, charsFrom_iff n (j + 1)]
    constructor
    · rintro ⟨h1, h2⟩ i h3 h4
      by_cases e : i = j
      · subst e; exact h1
      · exact h2 i (by omega) (by omega)
    · intro h
      exact ⟨h j (Nat.le_refl j) (by omega), fun i h3 h4 => h i (by omega) (by omega)⟩
theorem letter_dash {c : Int} (h : (c == 45) = true) : isLetter c = false := by
  have : c = 45 := by simpa using h
  subst this
  decide
theorem label_edges (s : ByteArray) (h : 1 ≤ s.size) : labelBytes s s.size 0 = (!(bt s 0 == 45) && (!(bt s ((s.size - 1 : Nat) : Int) == 45) && charsFrom s s.size 0)) := by
  apply Bool.eq_iff_iff.2
  simp only [Bool.and_eq_true, Bool.not_eq_true', labelBytes_iff, charsFrom_iff]
  constructor
  · intro h1
    refine ⟨?_, ?_, fun i h2 h3 => ?_⟩
    · cases e : bt s 0 == 45 with
      | false => rfl
      | true =>
        have := h1 0 (Nat.le_refl 0) (by omega)
        unfold okByte at this
        rw [show ((0 : Nat) : Int) = 0 from rfl, letter_dash e, e] at this
        simp at this
    · cases e : bt s ((s.size - 1 : Nat) : Int) == 45 with
      | false => rfl
      | true =>
        have := h1 (s.size - 1) (Nat.zero_le _) (by omega)
        unfold okByte at this
        rw [letter_dash e, e] at this
        simp at this
        omega
    · have := h1 i h2 h3
      unfold okByte at this
      revert this
      cases isLetter (bt s (i : Int)) <;> cases bt s (i : Int) == 45 <;> simp
  · rintro ⟨h1, h2, h3⟩ i h4 h5
    have h6 := h3 i h4 h5
    unfold okByte
    cases e : bt s (i : Int) == 45 with
    | false =>
      rw [e, Bool.or_false] at h6
      rw [h6]; rfl
    | true =>
      have h7 : i ≠ 0 := by rintro rfl; rw [show ((0 : Nat) : Int) = 0 from rfl, h1] at e; cases e
      have h8 : i ≠ s.size - 1 := by rintro rfl; rw [h2] at e; cases e
      have h9 : decide (0 < i) = true := by simp; omega
      have h10 : decide (i + 1 < s.size) = true := by simp; omega
      rw [h9, h10]
      simp
theorem foldl_app {α β : Type} (f : α → β) : ∀ (l : List α) (o : List β), l.foldl (fun o x => o ++ [f x]) o = o ++ l.map f
  | [], o => by simp
  | x :: l, o => by rw [List.foldl_cons, foldl_app f l]; simp
theorem idxFrom_any {α : Type} (p : α → Bool) : ∀ (l : List α) (j : Nat), decide (idxFrom p j l ≥ 0) = l.any p
  | [], j => rfl
  | x :: l, j => by
    unfold idxFrom
    rw [List.any_cons]
    cases p x with
    | true => simp
    | false => exact idxFrom_any p l (j + 1)
theorem any_not {α : Type} (p : α → Bool) (l : List α) : (!(l.any (fun x => !(p x)))) = l.all p := by
  induction l with
  | nil => rfl
  | cons x l ih => rw [List.any_cons, List.all_cons, ← ih]; cases p x <;> simp
theorem char_spec {ρ : Type} (k : Bool → Option ρ) (b : Int) (r : Bool) :
    (cond (decide (b < 97)) (cond (decide (b < 48)) (cond (b != 45) (k false) (k r)) (cond (decide (b > 57)) (cond (b != 45) (k false) (k r)) (k r)))
      (cond (decide (b > 122)) (cond (decide (b < 48)) (cond (b != 45) (k false) (k r)) (cond (decide (b > 57)) (cond (b != 45) (k false) (k r)) (k r))) (k r))) = k ((isLetter b || b == 45) && r) := by
  have e1 : decide (b < 97) = !decide (97 ≤ b) := by rw [← decide_not]; simp
  have e2 : decide (b < 48) = !decide (48 ≤ b) := by rw [← decide_not]; simp
  have e3 : decide (b > 57) = !decide (b ≤ 57) := by rw [← decide_not]; simp
  have e4 : decide (b > 122) = !decide (b ≤ 122) := by rw [← decide_not]; simp
  rw [e1, e2, e3, e4]
  unfold isLetter bne
  cases decide (97 ≤ b) <;> cases decide (b ≤ 122) <;> cases decide (48 ≤ b) <;> cases decide (b ≤ 57) <;> cases b == 45 <;> cases r <;> rfl

/-! ### Keys, entries, heads -/
/-- Each is greater than the one before, from place j on. -/
def ascFrom (l : List Int) : Nat → Nat → Bool
  | 0, _ => true
  | n + 1, j => (decide (j = 0) || decide (l.getD (j - 1) 0 < l.getD j 0)) && ascFrom l n (j + 1)
def asc (l : List Int) : Bool := ascFrom l l.length 0
def isKey (k : Int) : Bool := inR k 1 99
def isKeys (k : TKeys) : Bool := inR k.1.length 1 4 && (asc k.1 && (isKey (k.1.getD 0 0) && (isKey (k.1.getD (k.1.length - 1) 0) && inR k.2 1 k.1.length)))
/-- Keys from place j on are possible, each greater than the one before. -/
def keysFrom (l : List Int) : Nat → Nat → Bool
  | 0, _ => true
  | n + 1, j => isKey (l.getD j 0) && ((decide (j = 0) || decide (l.getD (j - 1) 0 < l.getD j 0)) && keysFrom l n (j + 1))
theorem ascFrom_iff {l : List Int} : ∀ (n j : Nat), ascFrom l n j = true ↔ ∀ i, j ≤ i → i < j + n → i = 0 ∨ l.getD (i - 1) 0 < l.getD i 0
  | 0, j => ⟨fun _ i h1 h2 => by omega, fun _ => rfl⟩
  | n + 1, j => by
    unfold ascFrom
    rw [Bool.and_eq_true, ascFrom_iff n (j + 1), Bool.or_eq_true, decide_eq_true_eq, decide_eq_true_eq]
    constructor
    · rintro ⟨h1, h2⟩ i h3 h4
      by_cases e : i = j
      · subst e; exact h1
      · exact h2 i (by omega) (by omega)
    · intro h
      exact ⟨h j (Nat.le_refl j) (by omega), fun i h3 h4 => h i (by omega) (by omega)⟩
theorem keysFrom_iff {l : List Int} : ∀ (n j : Nat), keysFrom l n j = true ↔ ∀ i, j ≤ i → i < j + n → isKey (l.getD i 0) = true ∧ (i = 0 ∨ l.getD (i - 1) 0 < l.getD i 0)
  | 0, j => ⟨fun _ i h1 h2 => by omega, fun _ => rfl⟩
  | n + 1, j => by
    unfold keysFrom
    rw [Bool.and_eq_true, Bool.and_eq_true, keysFrom_iff n (j + 1), Bool.or_eq_true, decide_eq_true_eq, decide_eq_true_eq]
    constructor
    · rintro ⟨h1, h2, h5⟩ i h3 h4
      by_cases e : i = j
      · subst e; exact ⟨h1, h2⟩
      · exact h5 i (by omega) (by omega)
    · intro h
      have := h j (Nat.le_refl j) (by omega)
      exact ⟨this.1, this.2, fun i h3 h4 => h i (by omega) (by omega)⟩
theorem isKey_iff (n : Int) : isKey n = true ↔ 1 ≤ n ∧ n ≤ 99 := by
  unfold isKey inR
  simp
theorem asc_le {l : List Int} (h : ∀ i, 0 ≤ i → i < l.length → i = 0 ∨ l.getD (i - 1) 0 < l.getD i 0) : ∀ (d i : Nat), i + d < l.length → l.getD i 0 ≤ l.getD (i + d) 0
  | 0, i, _ => Int.le_refl _
  | d + 1, i, hlt => by
    have h1 := asc_le h d i (by omega)
    rcases h (i + (d + 1)) (Nat.zero_le _) hlt with h2 | h2
    · omega
    · have : i + (d + 1) - 1 = i + d := by omega
      rw [this] at h2
      omega
theorem isKeys_eq (k : TKeys) : isKeys k = (keysFrom k.1 k.1.length 0 && (inR k.1.length 1 4 && inR k.2 1 k.1.length)) := by
  unfold isKeys
  cases hr : inR (k.1.length : Int) 1 4 with
  | false => simp
  | true =>
    have hr2 : 1 ≤ (k.1.length : Int) ∧ (k.1.length : Int) ≤ 4 := by simpa [inR] using hr
    have : (asc k.1 && (isKey (k.1.getD 0 0) && isKey (k.1.getD (k.1.length - 1) 0))) = keysFrom k.1 k.1.length 0 := by
      apply Bool.eq_iff_iff.2
      rw [Bool.and_eq_true, Bool.and_eq_true, keysFrom_iff]
      unfold asc
      rw [ascFrom_iff]
      simp only [Nat.zero_add, isKey_iff]
      constructor
      · rintro ⟨h1, h2, h3⟩ i h4 h5
        have a1 := asc_le h1 i 0 (by omega)
        have a2 := asc_le h1 (k.1.length - 1 - i) i (by omega)
        have e1 : i + (k.1.length - 1 - i) = k.1.length - 1 := by omega
        rw [Nat.zero_add] at a1
        rw [e1] at a2
        exact ⟨⟨by omega, by omega⟩, h1 i h4 h5⟩
      · intro h
        exact ⟨fun i h1 h2 => (h i h1 h2).2, (h 0 (Nat.le_refl 0) (by omega)).1, (h (k.1.length - 1) (Nat.zero_le _) (by omega)).1⟩
    rw [← this]
    cases asc k.1 <;> cases isKey (k.1.getD 0 0) <;> cases isKey (k.1.getD (k.1.length - 1) 0) <;> cases inR k.2 1 (k.1.length : Int) <;> rfl
def noKeys (k : TKeys) : Bool := k.2 == 0 && (k.1.length : Int) == 0
theorem keys_not_both {k : TKeys} (h1 : isKeys k = true) (h2 : noKeys k = true) : False := by
  unfold isKeys at h1
  unfold noKeys at h2
  simp only [Bool.and_eq_true, beq_iff_eq] at h1 h2
  have := h1.1
  unfold inR at this
  rw [h2.2] at this
  revert this
  decide
def isDigest (n : Int) : Bool := inR n 0 2147483646
def isEntry (e : TEntry) : Bool := isLabel e.1 && ((e.2.1 == 1 && (inR e.2.2.1 0 999999 && (e.2.2.2.length : Int) == 0)) || ((e.2.1 == 2 && (isDigest e.2.2.1 && (e.2.2.2.length : Int) == 0)) || (e.2.1 == 3 && (isDigest e.2.2.1 && isPath e.2.2.2))))
/-- Entries from place j on are valid, each label greater than the one before. -/
def areFrom (l : List TEntry) : Nat → Nat → Bool
  | 0, _ => true
  | n + 1, j => isEntry (l.getD j (ByteArray.empty, (0, (0, [])))) && ((decide (j = 0) || (cmpStr (l.getD (j - 1) (ByteArray.empty, (0, (0, [])))).1 (l.getD j (ByteArray.empty, (0, (0, [])))).1 == -1)) && areFrom l n (j + 1))
def areEntries (l : List TEntry) : Bool := areFrom l l.length 0 && decide (l.length ≤ 12)
def isSpan (h : THead) : Bool := decide (0 ≤ h.2.2.2.1) && (decide (h.2.2.2.1 ≤ h.2.2.2.2.1) && (decide (h.2.2.2.2.1 ≤ 100000) && decide (IntKind.wrap .i64 (h.2.2.2.2.1 - h.2.2.2.1) ≤ 200)))
def isMaybe (k : TKeys) : Bool := noKeys k || isKeys k
def isWait (w : Int) (k : TKeys) : Bool := cond (noKeys k) (w == 0) (inR w 1 500)
def isHead (h : THead) : Bool := isDigest h.1 && (isDigest h.2.2.2.2.2.2.1 && (isDigest h.2.2.2.2.2.2.2.1 && (inR h.2.1 0 200 && (inR h.2.2.1 1 3 && (isSpan h && (inR h.2.2.2.2.2.1 0 12 && (isKeys h.2.2.2.2.2.2.2.2.1 &&
  (isMaybe h.2.2.2.2.2.2.2.2.2.1 && (isMaybe h.2.2.2.2.2.2.2.2.2.2.2.1 && (isWait h.2.2.2.2.2.2.2.2.2.2.1 h.2.2.2.2.2.2.2.2.2.1 && cond h.2.2.2.2.2.2.2.2.2.2.2.2 (!(noKeys h.2.2.2.2.2.2.2.2.2.2.2.1)) true))))))))))
def canClaim (h : THead) (now : Int) : Bool := isHead h && (!h.2.2.2.2.2.2.2.2.2.2.2.2 && (!(noKeys h.2.2.2.2.2.2.2.2.2.1) && decide (now ≥ IntKind.wrap .i64 (h.2.2.2.2.1 + h.2.2.2.2.2.2.2.2.2.2.1))))
def sameContents (a b : THead) : Bool := a.2.2.2.2.2.1 == b.2.2.2.2.2.1 && a.2.2.2.2.2.2.1 == b.2.2.2.2.2.2.1
def isFresh (h : THead) (now : Int) : Bool := inR now h.2.2.2.1 h.2.2.2.2.1
def findEntry (l : List TEntry) (s : ByteArray) : Int := idxFrom (fun e => eqStr e.1 s) 0 l
def rankOf (l : List TEntry) (s : ByteArray) : Int := l.foldl (fun n e => cond (decide (cmpStr e.1 s < 0)) (IntKind.wrap .i64 (n + 1)) n) 0
def checkEntry (root count : Int) (e : TEntry) (p : TProof) : Bool := isEntry e && ((topFrom (leafOf e) p.1 count p.2).2 && rootFrom count (topFrom (leafOf e) p.1 count p.2).1 == root)
def checkAll (root : Int) (l : List TEntry) : Bool := areEntries l && rootOf l == root
/-! Signatures -/
def tagOf (key : Int) (msg : List Int) : Int := keyedHash key (223 :: msg)
def isSigBy (s : TSig) (msg : List Int) : Bool := inR s.1 1 99 && s.2 == tagOf s.1 msg
def hasSig (sigs : List TSig) (key : Int) (msg : List Int) : Bool := sigs.any fun s => s.1 == key && isSigBy s msg
def countSigs (k : TKeys) (msg : List Int) (sigs : List TSig) : Int := k.1.foldl (fun n key => cond (hasSig sigs key msg) (IntKind.wrap .i64 (n + 1)) n) 0
def isSigned (k : TKeys) (msg : List Int) (sigs : List TSig) : Bool := isKeys k && decide (countSigs k msg sigs ≥ k.2)
def hasInt (l : List Int) (x : Int) : Bool := l.any fun y => x == y
def signBy (held : List Int) (k : TKeys) (msg : List Int) : List TSig := k.1.filterMap fun key => match hasInt held key with | true => some (key, tagOf key msg) | false => none
def isFirst (s : TSigned) : Bool := isHead s.1 && (s.1.2.1 == 0 && (s.1.2.2.1 == 1 && (!s.1.2.2.2.2.2.2.2.2.2.2.2.2 && (s.1.1 == zoneOf s.1.2.2.2.2.2.2.2.2.1 s.1.2.2.2.2.2.2.2.1 && isSigned s.1.2.2.2.2.2.2.2.2.1 (headInts s.1) s.2))))
theorem cond_first {ρ : Type} (k : Bool → ρ) (a b c d e f : Bool) : cond a (cond b (cond c (cond (!d) (cond e (k f) (k false)) (k false)) (k false)) (k false)) (k false) = k (a && (b && (c && (!d && (e && f))))) := by
  cases a <;> cases b <;> cases c <;> cases d <;> cases e <;> rfl
def equalHeads (a b : THead) : Bool := eqInts (headInts a) (headInts b) && a.2.2.2.2.2.2.2.2.2.2.2.2 == b.2.2.2.2.2.2.2.2.2.2.2.2
def equalSigned (a b : TSigned) : Bool := equalHeads a.1 b.1 && eqSigs a.2 b.2
def isPrefix (a b : List TSigned) (d : TSigned) : Bool := decide (a.length ≤ b.length) && allN (fun j => equalHeads (a.getD j d).1 (b.getD j d).1) a.length 0
theorem allN_iff {q : Nat → Bool} : ∀ (n j : Nat), allN q n j = true ↔ ∀ i, j ≤ i → i < j + n → q i = true
  | 0, j => ⟨fun _ i h1 h2 => by omega, fun _ => rfl⟩
  | n + 1, j => by
    unfold allN
    rw [Bool.and_eq_true, allN_iff n (j + 1)]
    constructor
    · rintro ⟨h1, h2⟩ i h3 h4
      by_cases e : i = j
      · subst e; exact h1
      · exact h2 i (by omega) (by omega)
    · intro h
      exact ⟨h j (Nat.le_refl j) (by omega), fun i h3 h4 => h i (by omega) (by omega)⟩
theorem eqInts_iff {a b : List Int} : eqInts a b = true ↔ a = b := by
  constructor
  · intro h
    unfold eqInts eqL at h
    rw [Bool.and_eq_true, beq_iff_eq, allN_iff] at h
    apply List.ext_getElem h.1
    intro i h1 h2
    have := h.2 i (Nat.zero_le _) (by omega)
    rw [List.getD_eq_getElem?_getD, List.getD_eq_getElem?_getD, List.getElem?_eq_getElem h1, List.getElem?_eq_getElem h2] at this
    simpa using this
  · rintro rfl
    exact eqInts_refl a
theorem eqKeys_iff {a b : TKeys} : eqKeys a b = true ↔ a = b := by
  unfold eqKeys
  rw [Bool.and_eq_true, eqInts_iff, beq_iff_eq]
  exact ⟨fun h => Prod.ext h.1 h.2, fun h => by rw [h]; exact ⟨rfl, rfl⟩⟩
theorem keysInts_inj {a b : TKeys} {r s : List Int} (h : keysInts a ++ r = keysInts b ++ s) : a = b ∧ r = s := by
  unfold keysInts at h
  simp only [List.cons_append, List.cons.injEq] at h
  obtain ⟨h1, h2, h3⟩ := h
  have h4 : a.1.length = b.1.length := by omega
  obtain ⟨h5, h6⟩ := List.append_inj h3 h4
  exact ⟨Prod.ext h5 h1, h6⟩
theorem bitOf_inj {a b : Bool} (h : bitOf a = bitOf b) : a = b := by cases a <;> cases b <;> first | rfl | (exact absurd h (by decide))
/-- A head's numbers tell its keys and whether it is frozen. -/
theorem headInts_inj {a b : THead} (h : headInts a = headInts b) : a.2.2.2.2.2.2.2.2.1 = b.2.2.2.2.2.2.2.2.1 ∧ a.2.2.2.2.2.2.2.2.2.1 = b.2.2.2.2.2.2.2.2.2.1 ∧ a.2.2.2.2.2.2.2.2.2.2.2.1 = b.2.2.2.2.2.2.2.2.2.2.2.1 ∧ a.2.2.2.2.2.2.2.2.2.2.2.2 = b.2.2.2.2.2.2.2.2.2.2.2.2 := by
  unfold headInts at h
  obtain ⟨_, h⟩ := List.append_inj h rfl
  obtain ⟨h1, h⟩ := keysInts_inj h
  obtain ⟨h2, h⟩ := keysInts_inj h
  obtain ⟨_, h⟩ := List.append_inj h rfl
  obtain ⟨h3, h⟩ := keysInts_inj h
  injection h with h4 _
  exact ⟨h1, h2, h3, bitOf_inj h4⟩
theorem equalHeads_impl (a b : THead) : (eqKeys a.2.2.2.2.2.2.2.2.1 b.2.2.2.2.2.2.2.2.1 && (eqKeys a.2.2.2.2.2.2.2.2.2.1 b.2.2.2.2.2.2.2.2.2.1 && (eqKeys a.2.2.2.2.2.2.2.2.2.2.2.1 b.2.2.2.2.2.2.2.2.2.2.2.1 && eqInts (headInts a) (headInts b)))) = equalHeads a b := by
  apply Bool.eq_iff_iff.2
  unfold equalHeads
  simp only [Bool.and_eq_true, eqKeys_iff, eqInts_iff, beq_iff_eq]
  constructor
  · rintro ⟨_, _, _, h⟩
    exact ⟨h, (headInts_inj h).2.2.2⟩
  · rintro ⟨h, _⟩
    obtain ⟨h1, h2, h3, _⟩ := headInts_inj h
    exact ⟨h1, h2, h3, h⟩
theorem cond_and3 {ρ : Type} (k : Bool → ρ) (c d e b : Bool) : cond c (cond d (cond e (k b) (k false)) (k false)) (k false) = k (c && (d && (e && b))) := by cases c <;> cases d <;> cases e <;> rfl
theorem foldl_flat {α : Type} : ∀ (l : List (List α)) (o : List α), l.foldl (fun o x => o ++ x) o = o ++ l.flatten
  | [], o => by simp
  | x :: l, o => by rw [List.foldl_cons, foldl_flat l]; simp
theorem take_flat_le {α : Type} (l : List (List α)) (j : Nat) : (l.take j).flatten.length ≤ l.flatten.length := by
  conv => rhs; rw [← List.take_append_drop j l]
  rw [List.flatten_append, List.length_append]
  omega
theorem take_flat_succ {α : Type} (l : List (List α)) (j : Nat) (h : j < l.length) : (l.take (j + 1)).flatten.length = (l.take j).flatten.length + (l.getD j []).length := by
  rw [List.take_succ_eq_append_getElem h, List.flatten_append, List.length_append, List.getD_eq_getElem?_getD, List.getElem?_eq_getElem h]
  simp
def noneAt (e : TEntry) (p : TProof) : Bool := eqEntry e (ByteArray.empty, (0, (0, []))) && eqProof p (0, [])
def checkAbsence (root count : Int) (s : ByteArray) (g : TGap) : Bool := isLabel s && (inR g.1 0 count && ((!(count == 0) || root == rootOf []) &&
  (cond (g.1 == 0) (noneAt g.2.1 g.2.2.2.1) (checkEntry root count g.2.1 g.2.2.2.1 && (g.2.2.2.1.1 == g.1 - 1 && cmpStr g.2.1.1 s == -1)) &&
   cond (g.1 == count) (noneAt g.2.2.1 g.2.2.2.2) (checkEntry root count g.2.2.1 g.2.2.2.2 && (g.2.2.2.2.1 == g.1 && cmpStr g.2.2.1.1 s == 1)))))

theorem cond_and {ρ : Type} (k : Bool → ρ) (c b : Bool) : cond c (k b) (k false) = k (c && b) := by cases c <;> rfl
theorem cond_and2 {ρ : Type} (k : Bool → ρ) (c d b : Bool) : cond c (cond d (k b) (k false)) (k false) = k (c && (d && b)) := by cases c <;> cases d <;> rfl
theorem cond_and2s {ρ : Type} (k : Bool → ρ) (c d b : Bool) : cond d (cond c (k b) (k false)) (k false) = k (c && (d && b)) := by cases c <;> cases d <;> rfl
theorem absence_spec {ρ : Type} (k : Bool → ρ) (x1 x2 x3 x4 x5 x6 x7 x8 x9 x10 x11 x12 : Bool) :
    (cond x12 (cond (!x11) (k false) (cond x9 (cond (!x7) (k false) (cond x10 (k x8) (cond x6 (cond x3 (k x4) (k false)) (k false)))) (cond (!x5) (k false) (cond (!x1) (k false) (cond (!x2) (k false) (cond x10 (k x8) (cond x6 (cond x3 (k x4) (k false)) (k false))))))))
      (cond x9 (cond (!x7) (k false) (cond x10 (k x8) (cond x6 (cond x3 (k x4) (k false)) (k false)))) (cond (!x5) (k false) (cond (!x1) (k false) (cond (!x2) (k false) (cond x10 (k x8) (cond x6 (cond x3 (k x4) (k false)) (k false)))))))) =
    k ((!x12 || x11) && (cond x9 x7 (x5 && (x1 && x2)) && cond x10 x8 (x6 && (x3 && x4)))) := by
  cases x12 <;> cases x11 <;> cases x10 <;> cases x9 <;> cases x7 <;> cases x6 <;> cases x5 <;> cases x3 <;> cases x2 <;> cases x1 <;> rfl
theorem absence_impl {ρ : Type} (k : Bool → ρ) (x1 x2 x3 x4 x5 x6 x7 x8 x9 x10 x11 x12 : Bool) :
    (cond x12 (cond (!x11) (k false) (cond (!(cond (!x9) (x5 && x1) x7)) (k false) (cond (!(cond (!x10) (x6 && x3) x8)) (k false) (cond x9 (cond x10 (k true) (k x4)) (cond x2 (cond x10 (k true) (k x4)) (k false))))))
      (cond (!(cond (!x9) (x5 && x1) x7)) (k false) (cond (!(cond (!x10) (x6 && x3) x8)) (k false) (cond x9 (cond x10 (k true) (k x4)) (cond x2 (cond x10 (k true) (k x4)) (k false)))))) =
    k ((!x12 || x11) && (cond x9 x7 (x5 && (x1 && x2)) && cond x10 x8 (x6 && (x3 && x4)))) := by
  cases x12 <;> cases x11 <;> cases x10 <;> cases x9 <;> cases x8 <;> cases x7 <;> cases x6 <;> cases x5 <;> cases x3 <;> cases x2 <;> cases x1 <;> first | rfl | (cases x4 <;> rfl)

/-! ### Texts -/
abbrev gS (s : ByteArray) : Bool := decide (s.size ≤ 1048576)
abbrev gP (p : List ByteArray) : Bool := decide (wP p ≤ 1048576)
abbrev gE (e : TEntry) : Bool := decide (wE e ≤ 1048576)
abbrev gEs (l : List TEntry) : Bool := decide (wEs l ≤ 1048576)
abbrev bS (s : ByteArray) : Bool := decide (s.size ≤ 9223372036854775807)
abbrev bP (p : List ByteArray) : Bool := p.all bS
abbrev bE (e : TEntry) : Bool := bS e.1 && bP e.2.2.2
abbrev gI (n : Int) : Bool := decide (-9223372036854775808 ≤ n) && decide (n ≤ 9223372036854775807)
theorem gI_iff {n : Int} : gI n = true ↔ -9223372036854775808 ≤ n ∧ n ≤ 9223372036854775807 := by simp [gI]
theorem gI_of {n : Int} (h : (Lit.int .i64 n).wf = true) : gI n = true := by
  rw [gI_iff]
  simpa [Lit.wf, IntKind.min, IntKind.max, IntKind.signed, IntKind.bits] using h
/-! What a row gives of its arguments -/
abbrev okS (s : ByteArray) : Prop := s.size ≤ maxLen
abbrev okPth (p : List ByteArray) : Prop := p.length ≤ maxLen ∧ ∀ y, List.Mem y p → y.size ≤ maxLen
abbrev okE (e : TEntry) : Prop := e.1.size ≤ maxLen ∧ ((Lit.int .i64 e.2.1).wf = true ∧ ((Lit.int .i64 e.2.2.1).wf = true ∧ okPth e.2.2.2))
abbrev okEs (l : List TEntry) : Prop := l.length ≤ maxLen ∧ ∀ y, List.Mem y l → okE y
theorem maxLen_is : maxLen = 9223372036854775807 := by decide
theorem bS_of {s : ByteArray} (h : s.size ≤ maxLen) : bS s = true := by rw [maxLen_is] at h; simpa using h
theorem bP_of {p : List ByteArray} (h : okPth p) : bP p = true := List.all_eq_true.2 (fun s hs => bS_of (h.2 s hs))
theorem bE_of {e : TEntry} (h : okE e) : bE e = true := by
  unfold bE
  rw [bS_of h.1, bP_of h.2.2.2]
  rfl
theorem bEs_of {l : List TEntry} (h : okEs l) : l.all bE = true := List.all_eq_true.2 (fun e he => bE_of (h.2 e he))
theorem wP_mem {p : List ByteArray} {s : ByteArray} (h : s ∈ p) : s.size ≤ wP p := by
  have := wsum_mem (wt := ByteArray.size) h
  unfold wP; omega
theorem wEs_mem {l : List TEntry} {e : TEntry} (h : e ∈ l) : wE e ≤ wEs l := by
  have := wsum_mem (wt := wE) h
  unfold wEs; omega
theorem wSds_mem {l : List TSigned} {e : TSigned} (h : e ∈ l) : wSd e ≤ wSds l := by
  have := wsum_mem (wt := wSd) h
  unfold wSds; omega
/-! What may follow -/
theorem k_cond {ρ : Type} (k : Int → ρ) (c : Bool) (a b : Int) : cond c (k a) (k b) = k (cond c a b) := by cases c <;> rfl
def ownerC (a b : THead) : Int := cond a.2.2.2.2.2.2.2.2.2.2.2.2 4 (cond b.2.2.2.2.2.2.2.2.2.2.2.2 6 1)
def heirC (a b : THead) : Int := cond a.2.2.2.2.2.2.2.2.2.2.2.2 4 (cond (noKeys a.2.2.2.2.2.2.2.2.2.1) 5 (cond (decide (b.2.2.2.1 < IntKind.wrap .i64 (a.2.2.2.2.1 + a.2.2.2.2.2.2.2.2.2.2.1))) 5 (cond b.2.2.2.2.2.2.2.2.2.2.2.2 6 (cond (!(eqKeys b.2.2.2.2.2.2.2.2.1 a.2.2.2.2.2.2.2.2.2.1)) 6 (cond (!(sameContents b a)) 6 1)))))
def judgeC (a b : THead) : Int := cond (noKeys a.2.2.2.2.2.2.2.2.2.2.2.1) 5 (cond (b.2.2.2.2.2.2.2.2.2.2.2.2 == a.2.2.2.2.2.2.2.2.2.2.2.2) 6 (cond (!(sameContents b a)) 6 (cond (!(eqKeys b.2.2.2.2.2.2.2.2.2.2.2.1 a.2.2.2.2.2.2.2.2.2.2.2.1)) 6 (cond (!(eqKeys b.2.2.2.2.2.2.2.2.2.1 a.2.2.2.2.2.2.2.2.2.1)) 6 (cond (!(b.2.2.2.2.2.2.2.2.2.2.1 == a.2.2.2.2.2.2.2.2.2.2.1)) 6 (cond b.2.2.2.2.2.2.2.2.2.2.2.2 (cond (!(eqKeys b.2.2.2.2.2.2.2.2.1 a.2.2.2.2.2.2.2.2.1)) 6 1) 1))))))
def signedC (r : Int) (sg : Bool) : Int := cond (r == 1) (cond (!sg) 7 r) r
def signedBy (s : TSigned) (k : TKeys) : Bool := isSigned k (headInts s.1) s.2
def isNext (a b : THead) : Bool := b.1 == a.1 && (b.2.1 == IntKind.wrap .i64 (a.2.1 + 1) && (b.2.2.2.2.2.2.2.1 == headDigest a && decide (b.2.2.2.1 ≥ a.2.2.2.1)))
def nextCode (a : THead) (s : TSigned) : Int := cond (!(isHead a)) 2 (cond (!(isHead s.1)) 2 (cond (!(s.1.1 == a.1)) 3 (cond (!(s.1.2.1 == IntKind.wrap .i64 (a.2.1 + 1))) 3 (cond (!(s.1.2.2.2.2.2.2.2.1 == headDigest a)) 3 (cond (decide (s.1.2.2.2.1 < a.2.2.2.1)) 3 (cond (s.1.2.2.1 == 2) (signedC (heirC a s.1) (signedBy s a.2.2.2.2.2.2.2.2.2.1)) (cond (s.1.2.2.1 == 3) (signedC (judgeC a s.1) (signedBy s a.2.2.2.2.2.2.2.2.2.2.2.1)) (signedC (ownerC a s.1) (signedBy s a.2.2.2.2.2.2.2.2.1)))))))))
theorem sc_owner (f g s : Bool) : cond f 4 (cond g 6 (cond (!s) 7 1)) = signedC (cond f 4 (cond g 6 1)) s := by cases f <;> cases g <;> cases s <;> rfl
theorem sc_heir (f n t g e c s : Bool) : cond f 4 (cond n 5 (cond t 5 (cond g 6 (cond (!e) 6 (cond (!c) 6 (cond (!s) 7 1)))))) = signedC (cond f 4 (cond n 5 (cond t 5 (cond g 6 (cond (!e) 6 (cond (!c) 6 1)))))) s := by
  cases f <;> cases n <;> cases t <;> cases g <;> cases e <;> cases c <;> cases s <;> rfl
theorem sc_judge (n q c e h w g o s : Bool) : cond c (cond e (cond h (cond n 5 (cond q 6 (cond (!w) 6 (cond g (cond (!o) 6 (cond (!s) 7 1)) (cond (!s) 7 1))))) (cond n 5 (cond q 6 6))) (cond n 5 (cond q 6 6))) (cond n 5 (cond q 6 6)) =
    signedC (cond n 5 (cond q 6 (cond (!c) 6 (cond (!e) 6 (cond (!h) 6 (cond (!w) 6 (cond g (cond (!o) 6 1) 1))))))) s := by
  cases c <;> cases e <;> cases h <;> cases n <;> cases q <;> cases w <;> cases g <;> cases o <;> cases s <;> rfl
theorem sc_next (h1 h2 c1 c2 c3 c4 o1 o2 o3 : Bool) (O H J : Int) (e : h2 = true → (o1 = true ∧ o2 = false ∧ o3 = false) ∨ (o1 = false ∧ o2 = true ∧ o3 = false) ∨ (o1 = false ∧ o2 = false ∧ o3 = true)) :
    cond (!h1) 2 (cond (!h2) 2 (cond (!(c1 && (c2 && (c3 && c4)))) 3 (cond o1 O (cond o2 H J)))) = cond (!h1) 2 (cond (!h2) 2 (cond (!c1) 3 (cond (!c2) 3 (cond (!c3) 3 (cond (!c4) 3 (cond o2 H (cond o3 J O))))))) := by
  cases h2 with
  | false => cases h1 <;> rfl
  | true =>
    rcases e rfl with ⟨a, b, c⟩ | ⟨a, b, c⟩ | ⟨a, b, c⟩ <;> subst a <;> subst b <;> subst c <;> cases h1 <;> cases c1 <;> cases c2 <;> cases c3 <;> cases c4 <;> rfl
theorem isHead_code {h : THead} (e : isHead h = true) : h.2.2.1 = 1 ∨ h.2.2.1 = 2 ∨ h.2.2.1 = 3 := by
  unfold isHead at e
  simp only [Bool.and_eq_true] at e
  have := e.2.2.2.2.1
  unfold inR at this
  simp only [Bool.and_eq_true, decide_eq_true_eq] at this
  omega
theorem next_impl (a : THead) (s : TSigned) : cond (!(isHead a)) 2 (cond (!(isHead s.1)) 2 (cond (!(isNext a s.1)) 3 (cond (s.1.2.2.1 == 1) (signedC (ownerC a s.1) (signedBy s a.2.2.2.2.2.2.2.2.1)) (cond (s.1.2.2.1 == 2) (signedC (heirC a s.1) (signedBy s a.2.2.2.2.2.2.2.2.2.1)) (signedC (judgeC a s.1) (signedBy s a.2.2.2.2.2.2.2.2.2.2.2.1)))))) = nextCode a s := by
  unfold isNext nextCode
  have h := sc_next (isHead a) (isHead s.1) (s.1.1 == a.1) (s.1.2.1 == IntKind.wrap .i64 (a.2.1 + 1)) (s.1.2.2.2.2.2.2.2.1 == headDigest a) (decide (s.1.2.2.2.1 ≥ a.2.2.2.1)) (s.1.2.2.1 == 1) (s.1.2.2.1 == 2) (s.1.2.2.1 == 3) (signedC (ownerC a s.1) (signedBy s a.2.2.2.2.2.2.2.2.1)) (signedC (heirC a s.1) (signedBy s a.2.2.2.2.2.2.2.2.2.1)) (signedC (judgeC a s.1) (signedBy s a.2.2.2.2.2.2.2.2.2.2.2.1)) (fun e => by
    rcases isHead_code e with h | h | h <;> rw [h] <;> decide)
  have e : (!(decide (s.1.2.2.2.1 ≥ a.2.2.2.1))) = decide (s.1.2.2.2.1 < a.2.2.2.1) := by
    by_cases h : s.1.2.2.2.1 < a.2.2.2.1
    · rw [decide_eq_true h, decide_eq_false (by omega)]; rfl
    · rw [decide_eq_false h, decide_eq_true (by omega)]; rfl
  rw [e] at h
  exact h
def okAt (l : List TSigned) (d : TSigned) : Nat → Bool
  | 0 => isFirst (l.getD 0 d)
  | j + 1 => nextCode (l.getD j d).1 (l.getD (j + 1) d) == 1
def wrongFrom (l : List TSigned) (d : TSigned) : Nat → Nat → Int
  | 0, _ => -1
  | n + 1, j => cond (!(okAt l d j)) (j : Int) (wrongFrom l d n (j + 1))
theorem k_cond2 {α ρ : Type} (k : α → ρ) (c : Bool) (a b : α) : cond c (k a) (k b) = k (cond c a b) := by cases c <;> rfl
end Go.Proofs.Ytaghpijciobacaa.Ref

/-! ## PN -/
namespace Go.Proofs.Ytaghpijciobacaa.Ref
open Go.RowKit Go.Proofs.YtaghpijciobacaaW.PrintWords Go.Proofs.YtaghpijciobacaaW.PrintLast

/-- The number behind n marks. -/
def upG (s : Int → Int) : Int → Nat → Int
  | k, 0 => k
  | k, n + 1 => upG s (s k) n
/-- n marks. -/
def mkG {α : Type} (v : Int → α) (s : Int → Int) : Int → Nat → List α
  | _, 0 => []
  | k, n + 1 => v k :: mkG v s (s k) n
/-- The number behind the marks that are found; -1 where another thing stands. -/
def heldG {α : Type} (c : α → Int → Bool) (s : Int → Int) : List α → Int → Int
  | [], k => k
  | a :: l, k => cond (c a k) (heldG c s l (s k)) (-1)
theorem mkG_len {α : Type} (v : Int → α) (s : Int → Int) : ∀ (n : Nat) (k : Int), (mkG v s k n).length = n
  | 0, _ => rfl
  | n + 1, k => by simp [mkG, mkG_len v s n]
theorem held_mk {α : Type} {v : Int → α} {c : α → Int → Bool} {s : Int → Int} (hc : ∀ k, c (v k) k = true) : ∀ (n : Nat) (k : Int), heldG c s (mkG v s k n) k = upG s k n
  | 0, _ => rfl
  | n + 1, k => by
    show cond (c (v k) k) (heldG c s (mkG v s (s k) n) (s k)) (-1) = upG s (s k) n
    rw [hc, cond_true, held_mk hc n]
def s1 (k : Int) : Int := IntKind.wrap .i64 (k + 1)
def s2 (k : Int) : Int := IntKind.wrap .i64 (IntKind.wrap .i64 (k + 1) + 1)
theorem up1_le : ∀ (n : Nat) (k : Int), 0 ≤ k → k + n ≤ 4611686018427387904 → upG s1 k n = k + n
  | 0, k, _, _ => by simp [upG]
  | n + 1, k, h0, h1 => by
    have e : s1 k = k + 1 := wrap_id (by omega) (by omega)
    show upG s1 (s1 k) n = _
    rw [e, up1_le n (k + 1) (by omega) (by omega)]
    omega
theorem up2_le : ∀ (n : Nat) (k : Int), 0 ≤ k → k + 2 * n ≤ 4611686018427387904 → upG s2 k n = k + 2 * n
  | 0, k, _, _ => by simp [upG]
  | n + 1, k, h0, h1 => by
    have e : s2 k = k + 2 := by
      have e1 : IntKind.wrap .i64 (k + 1) = k + 1 := wrap_id (by omega) (by omega)
      unfold s2
      rw [e1, wrap_id (by omega) (by omega)]
      omega
    show upG s2 (s2 k) n = _
    rw [e, up2_le n (k + 2) (by omega) (by omega)]
    omega
theorem set_mid {α : Type} (p : List α) (b x : α) (q : List α) : (p ++ b :: q).set p.length x = (p ++ [x]) ++ q := by
  rw [List.set_append_right _ _ (Nat.le_refl _)]
  simp
theorem raw_mark {α ρ : Type} {v : Int → α} {s : Int → Int} {K : Int → List α → Option ρ} {L : Nat → Int → Int → List α → Option ρ} {l : List α} (hl : l.length ≤ big)
    (h1 : ∀ m k j (p : List α), p.length = l.length → j < p.length → L (m + 1) k (j : Int) p = L m (s k) ((j + 1 : Nat) : Int) (p.set j (v k))) (h2 : ∀ m k (p : List α), p.length = l.length → L (m + 1) k (l.length : Int) p = K k p)
    {n : Nat} {k : Int} (hn : l.length < n) : L n k 0 l = K (upG s k l.length) (mkG v s k l.length) := by
  have go : ∀ (q p : List α) (n : Nat) (k : Int), p.length + q.length = l.length → q.length < n → L n k (p.length : Int) (p ++ q) = K (upG s k q.length) (p ++ mkG v s k q.length) := by
    intro q
    induction q with
    | nil =>
      intro p n k he hn
      cases n with
      | zero => exact absurd hn (Nat.not_lt_zero _)
      | succ n =>
        rw [List.append_nil, show (p.length : Int) = (l.length : Int) by simp at he; omega, h2 _ _ _ (by simpa using he)]
        simp [upG, mkG]
    | cons b q ih =>
      intro p n k he hn
      cases n with
      | zero => exact absurd hn (Nat.not_lt_zero _)
      | succ n =>
        have he' : p.length + (q.length + 1) = l.length := by simpa using he
        rw [h1 n k p.length (p ++ b :: q) (by simpa using he) (by simp), set_mid]
        have := ih (p ++ [v k]) n (s k) (by simp; omega) (by simp at hn; omega)
        rw [show ((p.length + 1 : Nat) : Int) = ((p ++ [v k]).length : Int) by simp, this]
        simp [upG, mkG]
  have := go l [] n k (by simp) hn
  simpa using this
theorem raw_held {α ρ : Type} {c : α → Int → Bool} {s : Int → Int} {K : Int → Option ρ} {L : Nat → Int → Int → Option ρ} {l : List α} (d : α) (hl : l.length ≤ big)
    (h1 : ∀ m k j, j < l.length → L (m + 1) k (j : Int) = cond (c (l.getD j d) k) (L m (s k) ((j + 1 : Nat) : Int)) (K (-1))) (h2 : ∀ m k, L (m + 1) k (l.length : Int) = K k)
    {n : Nat} {k : Int} (hn : l.length < n) : L n k 0 = K (heldG c s l k) := by
  have go : ∀ (q p : List α) (n : Nat) (k : Int), p ++ q = l → q.length < n → L n k (p.length : Int) = K (heldG c s q k) := by
    intro q
    induction q with
    | nil =>
      intro p n k he hn
      cases n with
      | zero => exact absurd hn (Nat.not_lt_zero _)
      | succ n =>
        have : p = l := by simpa using he
        rw [this, h2]
        rfl
    | cons b q ih =>
      intro p n k he hn
      cases n with
      | zero => exact absurd hn (Nat.not_lt_zero _)
      | succ n =>
        have hlt : p.length < l.length := by rw [← he]; simp
        have hb : l.getD p.length d = b := by rw [← he]; simp [List.getD_eq_getElem?_getD]
        rw [h1 n k p.length hlt, hb]
        cases hc : c b k with
        | false => simp [heldG, hc]
        | true =>
          have := ih (p ++ [b]) n (s k) (by rw [← he]; simp) (by simp at hn; omega)
          rw [show ((p.length + 1 : Nat) : Int) = ((p ++ [b]).length : Int) by simp, cond_true, this]
          simp [heldG, hc]
  have := go l [] n k (by simp) hn
  simpa using this
/-! The marks of numbers, of keys, of a head. -/
def mkI (k : Int) (n : Nat) : List Int := mkG (fun k => k) s1 k n
def upI (k : Int) (n : Nat) : Int := upG s1 k n
def heldI (l : List Int) (k : Int) : Int := heldG (fun a k => a == k) s1 l k
theorem held_mkI (k : Int) (n : Nat) : heldI (mkI k n) k = upI k n := held_mk (c := fun a k => a == k) (by simp) n k
theorem upI_le {k : Int} {n : Nat} (h0 : 0 ≤ k) (h1 : k + n ≤ 4611686018427387904) : upI k n = k + n := up1_le n k h0 h1
theorem upI_nn {k : Int} {n : Nat} (h0 : 0 ≤ k) (h1 : k + n ≤ 4611686018427387904) : decide (upI k n < 0) = false := by
  rw [upI_le h0 h1]
  exact decide_eq_false (by omega)
theorem upI3_nn {a b c : Nat} (h : a + b + c ≤ 1099511627776) : decide (upI (upI (upI 1 a) b) c < 0) = false := by
  rw [upI_le (k := 1) (n := a) (by omega) (by omega), upI_le (k := 1 + a) (n := b) (by omega) (by omega)]
  exact upI_nn (by omega) (by omega)
theorem upI1_nn {a : Nat} (h : a ≤ 1099511627776) : decide (upI 1 a < 0) = false := upI_nn (by omega) (by omega)
theorem markHead_nn {h : THead} (hw : wH h ≤ 1048576) : decide (upI (upI (upI 1 h.2.2.2.2.2.2.2.2.1.1.length) h.2.2.2.2.2.2.2.2.2.1.1.length) h.2.2.2.2.2.2.2.2.2.2.2.1.1.length < 0) = false := by
  unfold wH wK at hw
  exact upI3_nn (by omega)
theorem mkI_len (k : Int) (n : Nat) : (mkI k n).length = n := mkG_len _ _ n k

/-! The text of a mark. -/
theorem wrap_big (n : Int) : IntKind.wrap .i64 n ≤ 9223372036854775807 := by
  have e : IntKind.wrap .i64 n = if n % 18446744073709551616 ≥ 9223372036854775808 then n % 18446744073709551616 - 18446744073709551616 else n % 18446744073709551616 := by
    unfold IntKind.wrap
    simp [IntKind.bits, IntKind.signed]
  rw [e]
  split <;> omega
def mtOne (k : Int) : ByteArray := strOfNums [IntKind.wrap .u8 (IntKind.wrap .i64 (48 + Int.tmod k 10))]
theorem mtOne_size (k : Int) : (mtOne k).size = 1 := strOfNums_size _
def mtG : Nat → Int → ByteArray → ByteArray
  | 0, _, o => o
  | f + 1, k, o => cond (decide (k > 0)) (mtG f (IntKind.wrap .i64 (Int.tdiv k 10)) (mtOne k ++ o)) o
def markTextM (k : Int) : ByteArray := cond (decide (k ≤ 0)) (ByteArray.mk #[109, 48]) (ByteArray.mk #[109] ++ mtG 25 k (ByteArray.mk #[]))
theorem raw_mt {ρ : Type} {K : ByteArray → Option ρ} {L : Nat → Int → ByteArray → Option ρ} (hL : ∀ m k o, L (m + 1) k o = cond (decide (k > 0)) (cond (decide ((mtOne k).size + o.size ≤ 9223372036854775807)) (L m (IntKind.wrap .i64 (Int.tdiv k 10)) (mtOne k ++ o)) none)
      (cond (decide ((ByteArray.mk #[109]).size + o.size ≤ 9223372036854775807)) (K (ByteArray.mk #[109] ++ o)) none)) :
    ∀ (f m : Nat) (k : Int) (o : ByteArray), k ≤ 9223372036854775807 → k < 10 ^ f → f < m → o.size + f ≤ 1000 → L m k o = K (ByteArray.mk #[109] ++ mtG f k o)
  | f, 0, k, o, _, _, hm, _ => absurd hm (Nat.not_lt_zero f)
  | 0, m + 1, k, o, hb, hk, hm, ho => by
    have h1 : decide (k > 0) = false := decide_eq_false (by simp at hk; omega)
    have h2 : decide ((ByteArray.mk #[109]).size + o.size ≤ 9223372036854775807) = true := decide_eq_true (by
      have : (ByteArray.mk #[109]).size = 1 := rfl
      omega)
    rw [hL, h1, h2]
    rfl
  | f + 1, m + 1, k, o, hb, hk, hm, ho => by
    rw [hL]
    have hs := mtOne_size k
    have h2 : decide ((ByteArray.mk #[109]).size + o.size ≤ 9223372036854775807) = true := decide_eq_true (by
      have : (ByteArray.mk #[109]).size = 1 := rfl
      omega)
    have h3 : decide ((mtOne k).size + o.size ≤ 9223372036854775807) = true := decide_eq_true (by omega)
    cases hc : decide (k > 0) with
    | false => rw [h2]; simp [mtG, hc]
    | true =>
      have hk0 : k > 0 := of_decide_eq_true hc
      have hd : Int.tdiv k 10 = k / 10 := Int.tdiv_eq_ediv_of_nonneg (by omega)
      have hw : IntKind.wrap .i64 (Int.tdiv k 10) = k / 10 := by rw [hd]; exact wrap_id (by omega) (by omega)
      have hlt : k / 10 < 10 ^ f := by
        rw [Int.pow_succ] at hk
        omega
      rw [h3]
      simp only [cond_true]
      rw [raw_mt hL f m _ _ (by rw [hw]; omega) (by rw [hw]; exact hlt) (by omega) (by rw [ByteArray.size_append]; omega)]
      simp [mtG, hc]
theorem markText_run {ρ : Type} {K : ByteArray → Option ρ} {L : Nat → Int → ByteArray → Option ρ} (hL : ∀ m k o, L (m + 1) k o = cond (decide (k > 0)) (cond (decide ((mtOne k).size + o.size ≤ 9223372036854775807)) (L m (IntKind.wrap .i64 (Int.tdiv k 10)) (mtOne k ++ o)) none)
      (cond (decide ((ByteArray.mk #[109]).size + o.size ≤ 9223372036854775807)) (K (ByteArray.mk #[109] ++ o)) none)) {n : Nat} (hn : 30 ≤ n) {k : Int} : cond (decide (k ≤ 0)) (K (ByteArray.mk #[109, 48])) (L n k (ByteArray.mk #[])) = K (markTextM k) := by
  unfold markTextM
  cases hc : decide (k ≤ 0) with
  | true => rfl
  | false =>
    simp only [cond_false]
    obtain ⟨m, rfl⟩ : ∃ m, n = m + 1 := ⟨n - 1, by omega⟩
    have hp : decide (k > 0) = true := decide_eq_true (by have := of_decide_eq_false hc; omega)
    have h3 : decide ((mtOne k).size + (ByteArray.mk #[]).size ≤ 9223372036854775807) = true := decide_eq_true (by rw [mtOne_size]; decide)
    rw [hL, hp, h3]
    simp only [cond_true]
    have hw := wrap_big (Int.tdiv k 10)
    rw [raw_mt hL 24 m _ _ hw (Int.lt_of_le_of_lt hw (by decide)) (by omega) (by rw [ByteArray.size_append, mtOne_size]; decide)]
    simp [mtG, hp]
def mkS (k : Int) (n : Nat) : List ByteArray := mkG markTextM s1 k n
def heldS (l : List ByteArray) (k : Int) : Int := heldG (fun a k => eqStr a (markTextM k)) s1 l k
theorem held_mkS (k : Int) (n : Nat) : heldS (mkS k n) k = upI k n := held_mk (c := fun a k => eqStr a (markTextM k)) (fun k => eqStr_refl _) n k
theorem mkS_len (k : Int) (n : Nat) : (mkS k n).length = n := mkG_len _ _ n k
theorem wP_ge (p : List ByteArray) : p.length ≤ wP p := by unfold wP; omega
theorem wE_ge (e : TEntry) : e.2.2.2.length ≤ wE e := by have := wP_ge e.2.2.2; unfold wE; omega
theorem pathN_len : ∀ (n i : Nat) (l : List Int), (pathN n i l).length ≤ n
  | 0, _, _ => Nat.le_refl 0
  | n + 1, i, l => by
    have := pathN_len n (i / 2) (up l)
    unfold pathN
    cases decide (1 < l.length) <;> cases decide (sib i < l.length) <;> simp <;> omega
theorem pathFor_len (l : List Int) (i : Int) : (pathFor l i).length ≤ l.length := by
  unfold pathFor
  cases inR i 0 ((l.length : Int) - 1)
  · simp
  · exact pathN_len _ _ _
/-- Less than nought: -1. -/
def neg1 (h : Int) : Int := cond (decide (h < 0)) (-1) h
theorem neg1_of {h : Int} (e : decide (h < 0) = false) : neg1 h = h := by unfold neg1; rw [e]; rfl
/-! Marks one behind the other. -/
theorem upG_add (s : Int → Int) : ∀ (a b : Nat) (k : Int), upG s (upG s k a) b = upG s k (a + b)
  | 0, b, k => by simp [upG]
  | a + 1, b, k => by
    rw [Nat.succ_add]
    exact upG_add s a b (s k)
theorem upI_add (k : Int) (a b : Nat) : upI (upI k a) b = upI k (a + b) := upG_add s1 a b k
def up2 (k : Int) (n : Nat) : Int := upG s2 k n
theorem up2_upI : ∀ (n : Nat) (k : Int), up2 k n = upI k (2 * n)
  | 0, k => rfl
  | n + 1, k => by
    show up2 (s2 k) n = upI k (2 * n + 1 + 1)
    rw [up2_upI n]
    rfl
def mk2 (k : Int) (n : Nat) : List TSig := mkG (fun k => (k, IntKind.wrap .i64 (k + 1))) s2 k n
def held2 (l : List TSig) (k : Int) : Int := heldG (fun a k => a.1 == k && a.2 == IntKind.wrap .i64 (k + 1)) s2 l k
theorem held_mk2 (k : Int) (n : Nat) : held2 (mk2 k n) k = up2 k n := held_mk (c := fun (a : TSig) k => a.1 == k && a.2 == IntKind.wrap .i64 (k + 1)) (by simp) n k
/-- On, unless it is -1. -/
def thenH (h : Int) (f : Int → Int) : Int := cond (decide (h < 0)) (-1) (f h)
theorem thenH_of {h : Int} {f : Int → Int} (e : decide (h < 0) = false) : thenH h f = f h := by unfold thenH; rw [e]; rfl
def heldH3 (a b c : List Int) (k : Int) : Int := thenH (neg1 (heldI a k)) fun k => thenH (neg1 (heldI b k)) fun k => neg1 (neg1 (heldI c k))
theorem heldH3_mk {a b c : Nat} (h : a + b + c ≤ 1099511627776) : heldH3 (mkI 1 a) (mkI (upI 1 a) b) (mkI (upI 1 (a + b)) c) 1 = upI 1 (a + b + c) := by
  unfold heldH3
  have e1 := upI1_nn (a := a) (by omega)
  have e2 := upI1_nn (a := a + b) (by omega)
  have e3 := upI1_nn (a := a + b + c) (by omega)
  simp only [held_mkI, upI_add, neg1_of e1, thenH_of e1, neg1_of e2, thenH_of e2, neg1_of e3]
def heldSd (a b c : List Int) (d : List TSig) (k : Int) : Int := thenH (heldH3 a b c k) fun k => neg1 (held2 d k)
theorem heldSd_mk {a b c d : Nat} (h : a + b + c + 2 * d ≤ 1099511627776) : heldSd (mkI 1 a) (mkI (upI 1 a) b) (mkI (upI 1 (a + b)) c) (mk2 (upI 1 (a + b + c)) d) 1 = upI 1 (a + b + c + 2 * d) := by
  unfold heldSd
  have e3 := upI1_nn (a := a + b + c) (by omega)
  have e4 := upI1_nn (a := a + b + c + 2 * d) (by omega)
  rw [heldH3_mk (by omega), thenH_of e3, held_mk2, up2_upI, upI_add, neg1_of e4]
theorem wH_len (h : THead) : h.2.2.2.2.2.2.2.2.1.1.length + h.2.2.2.2.2.2.2.2.2.1.1.length + h.2.2.2.2.2.2.2.2.2.2.2.1.1.length = wH h := by unfold wH wK; omega
theorem filterMap_len {α β : Type} (f : α → Option β) : ∀ l : List α, (l.filterMap f).length ≤ l.length := fun l => List.length_filterMap_le f l
theorem signBy_len (held : List Int) (k : TKeys) (msg : List Int) : (signBy held k msg).length ≤ k.1.length := filterMap_len _ _
/-! Marks of a row of entries. -/
def upL {α : Type} (s : α → Int → Int) : List α → Int → Int
  | [], k => k
  | x :: l, k => upL s l (s x k)
def mkL {α : Type} (v : α → Int → α) (s : α → Int → Int) : List α → Int → List α
  | [], _ => []
  | x :: l, k => v x k :: mkL v s l (s x k)
theorem raw_markL {α ρ : Type} {v : α → Int → α} {s : α → Int → Int} {K : Int → List α → Option ρ} {L : Nat → Int → Int → List α → Option ρ} {l : List α} (d : α)
    (h1 : ∀ m k j (p : List α), p.length = l.length → j < p.length → L (m + 1) k (j : Int) p = L m (s (p.getD j d) k) ((j + 1 : Nat) : Int) (p.set j (v (p.getD j d) k))) (h2 : ∀ m k (p : List α), p.length = l.length → L (m + 1) k (l.length : Int) p = K k p)
    {n : Nat} {k : Int} (hn : l.length < n) : L n k 0 l = K (upL s l k) (mkL v s l k) := by
  have go : ∀ (q p : List α) (n : Nat) (k : Int), p.length + q.length = l.length → q.length < n → L n k (p.length : Int) (p ++ q) = K (upL s q k) (p ++ mkL v s q k) := by
    intro q
    induction q with
    | nil =>
      intro p n k he hn
      cases n with
      | zero => exact absurd hn (Nat.not_lt_zero _)
      | succ n =>
        rw [List.append_nil, show (p.length : Int) = (l.length : Int) by simp at he; omega, h2 _ _ _ (by simpa using he)]
        simp [upL, mkL]
    | cons b q ih =>
      intro p n k he hn
      cases n with
      | zero => exact absurd hn (Nat.not_lt_zero _)
      | succ n =>
        have he' : p.length + (q.length + 1) = l.length := by simpa using he
        have hb : (p ++ b :: q).getD p.length d = b := by simp [List.getD_eq_getElem?_getD]
        rw [h1 n k p.length (p ++ b :: q) (by simpa using he) (by simp), hb, set_mid]
        have := ih (p ++ [v b k]) n (s b k) (by simp; omega) (by simp at hn; omega)
        rw [show ((p.length + 1 : Nat) : Int) = ((p ++ [v b k]).length : Int) by simp, this]
        simp [upL, mkL]
  have := go l [] n k (by simp) hn
  simpa using this
theorem raw_heldL {α ρ : Type} {f : α → Int → (Int → Int) → Int} {H : List α → Int → Int} (hH0 : ∀ k, H [] k = k) (hH : ∀ a l k, H (a :: l) k = f a k (H l)) {K : Int → Option ρ} {L : Nat → Int → Int → Option ρ} {l : List α} (d : α)
    (h1 : ∀ m k j (G : Int → Int), j < l.length → (∀ k', L m k' ((j + 1 : Nat) : Int) = K (G k')) → L (m + 1) k (j : Int) = K (f (l.getD j d) k G)) (h2 : ∀ m k, L (m + 1) k (l.length : Int) = K k)
    {n : Nat} {k : Int} (hn : l.length < n) : L n k 0 = K (H l k) := by
  have go : ∀ (q p : List α) (n : Nat) (k : Int), p ++ q = l → q.length < n → L n k (p.length : Int) = K (H q k) := by
    intro q
    induction q with
    | nil =>
      intro p n k he hn
      cases n with
      | zero => exact absurd hn (Nat.not_lt_zero _)
      | succ n =>
        have : p = l := by simpa using he
        rw [this, h2, hH0]
    | cons b q ih =>
      intro p n k he hn
      cases n with
      | zero => exact absurd hn (Nat.not_lt_zero _)
      | succ n =>
        have hlt : p.length < l.length := by rw [← he]; simp
        have hb : l.getD p.length d = b := by rw [← he]; simp [List.getD_eq_getElem?_getD]
        rw [h1 n k p.length (H q) hlt (fun k' => by
          have := ih (p ++ [b]) n k' (by rw [← he]; simp) (by simp at hn; omega)
          rw [show ((p.length + 1 : Nat) : Int) = ((p ++ [b]).length : Int) by simp, this]), hb, hH]
  have := go l [] n k (by simp) hn
  simpa using this
def stE (e : TEntry) (k : Int) : Int := upI (s1 (s1 (s1 k))) e.2.2.2.length
def vE (e : TEntry) (k : Int) : TEntry := (markTextM k, (s1 k, (s1 (s1 k), mkS (s1 (s1 (s1 k))) e.2.2.2.length)))
def upE (l : List TEntry) (k : Int) : Int := upL stE l k
def mkE (l : List TEntry) (k : Int) : List TEntry := mkL vE stE l k
def cntE (l : List TEntry) : Nat := wsum (fun e => 3 + e.2.2.2.length) l
theorem upE_upI : ∀ (l : List TEntry) (k : Int), upE l k = upI k (cntE l)
  | [], k => rfl
  | e :: l, k => by
    show upE l (stE e k) = upI k ((3 + e.2.2.2.length) + cntE l)
    rw [upE_upI l, ← upI_add, ← upI_add]
    rfl
theorem cntE_le : ∀ l : List TEntry, cntE l ≤ 3 * wEs l
  | [] => Nat.zero_le _
  | e :: l => by
    have h1 := cntE_le l
    have h2 := wE_ge e
    show (3 + e.2.2.2.length) + cntE l ≤ 3 * ((l.length + 1) + (wE e + wsum wE l))
    have h3 : wEs l = l.length + wsum wE l := rfl
    omega
def hE (e : TEntry) (k : Int) (G : Int → Int) : Int := cond (eqStr e.1 (markTextM k)) (cond (e.2.1 == s1 k) (cond (e.2.2.1 == s1 (s1 k)) (thenH (heldS e.2.2.2 (s1 (s1 (s1 k)))) G) (-1)) (-1)) (-1)
def heldE : List TEntry → Int → Int
  | [], k => k
  | e :: l, k => hE e k (heldE l)
theorem held_mkE : ∀ (l : List TEntry) (n : Nat), n + cntE l ≤ 1099511627776 → heldE (mkE l (upI 1 n)) (upI 1 n) = upI 1 (n + cntE l)
  | [], n, _ => rfl
  | e :: l, n, h => by
    have hc : cntE (e :: l) = (3 + e.2.2.2.length) + cntE l := rfl
    rw [hc] at h ⊢
    have h3 : s1 (s1 (s1 (upI 1 n))) = upI 1 (n + 3) := by rw [← upI_add]; rfl
    have hst : stE e (upI 1 n) = upI 1 (n + 3 + e.2.2.2.length) := by unfold stE; rw [h3, upI_add]
    have hn := upI1_nn (a := n + 3 + e.2.2.2.length) (by omega)
    show hE (vE e (upI 1 n)) (upI 1 n) (heldE (mkE l (stE e (upI 1 n)))) = _
    unfold hE vE
    simp only [eqStr_refl, beq_self_eq_true, cond_true, h3, held_mkS, upI_add, thenH_of hn, hst]
    rw [held_mkE l (n + 3 + e.2.2.2.length) (by omega)]
    congr 1
    omega
theorem wEs_ge (l : List TEntry) : l.length ≤ wEs l := by
  have h : wEs l = l.length + wsum wE l := rfl
  omega
/-! The first head of a zone. -/
def zeroHead : THead := (0, (0, (0, (0, (0, (0, (0, (0, (([], 0), (([], 0), (0, (([], 0), false))))))))))))
def headOf (k : TKeys) (salt : Int) (l : List TEntry) (time till : Int) : THead := (zoneOf k salt, (0, (1, (time, (till, ((l.length : Int), (rootOf l, (salt, (k, (([], 0), (0, (([], 0), false))))))))))))
def firstHead (k : TKeys) (salt : Int) (l : List TEntry) (a b : Int) : THead × Bool := cond (!(areEntries l)) (zeroHead, false) (cond (!(inR a 0 100000)) (zeroHead, false) (cond (!(inR b 0 200)) (zeroHead, false) (cond (!(isHead (headOf k salt l a (IntKind.wrap .i64 (a + b))))) (zeroHead, false) (headOf k salt l a (IntKind.wrap .i64 (a + b)), true))))
def tillM (a b : Int) : Int := cond (!(inR a 0 100000)) 100001 (cond (!(inR b 0 200)) 100001 (IntKind.wrap .i64 (a + b)))
theorem late_head (k : TKeys) (salt : Int) (l : List TEntry) (a : Int) : isHead (headOf k salt l a 100001) = false := by
  have h : isSpan (headOf k salt l a 100001) = false := by
    unfold isSpan headOf
    have : decide ((100001 : Int) ≤ 100000) = false := by decide
    simp only [this, Bool.false_and, Bool.and_false]
  unfold isHead
  rw [h]
  simp only [Bool.false_and, Bool.and_false]
theorem firstHead_impl (k : TKeys) (salt : Int) (l : List TEntry) (a b : Int) : cond (!(areEntries l)) (zeroHead, false) (cond (!(isHead (headOf k salt l a (tillM a b)))) (zeroHead, false) (headOf k salt l a (tillM a b), true)) = firstHead k salt l a b := by
  unfold firstHead tillM
  cases areEntries l with
  | false => rfl
  | true =>
    cases inR a 0 100000 with
    | false =>
      simp only [Bool.not_false, Bool.not_true, cond_true, cond_false, late_head]
    | true =>
      cases inR b 0 200 with
      | false => simp only [Bool.not_false, Bool.not_true, cond_true, cond_false, late_head]
      | true => rfl
theorem firstHead_len (k : TKeys) (salt : Int) (l : List TEntry) (a b : Int) : wH (firstHead k salt l a b).1 ≤ wK k := by
  unfold firstHead
  cases areEntries l <;> cases inR a 0 100000 <;> cases inR b 0 200 <;> cases isHead (headOf k salt l a (IntKind.wrap .i64 (a + b))) <;> simp [wH, wK, headOf, zeroHead]
/-! Proofs. -/
def proveEntry (l : List TEntry) (s : ByteArray) : TProof × Bool := cond (decide (findEntry l s < 0)) ((0, []), false) ((findEntry l s, pathFor (l.map leafOf) (findEntry l s)), true)
theorem proveEntry_len (l : List TEntry) (s : ByteArray) : (proveEntry l s).1.2.length ≤ l.length := by
  unfold proveEntry
  cases decide (findEntry l s < 0) with
  | true => exact Nat.zero_le _
  | false =>
    have := pathFor_len (l.map leafOf) (findEntry l s)
    simpa using this
/-! Proofs of absence. -/
def zeroE : TEntry := (ByteArray.empty, (0, (0, [])))
def zeroP : TProof := (0, [])
def zeroG : TGap := (0, (zeroE, (zeroE, (zeroP, zeroP))))
theorem entAt_len (l : List TEntry) (j : Nat) : (l.getD j (ByteArray.empty, (0, (0, [])))).2.2.2.length ≤ wEs l := by
  by_cases h : j < l.length
  · exact Nat.le_trans (wE_ge _) (wEs_mem (getD_mem h))
  · rw [List.getD_eq_getElem?_getD, List.getElem?_eq_none (by omega)]
    exact Nat.zero_le _
theorem rank_go (s : ByteArray) : ∀ (l : List TEntry) (n : Nat), n + l.length ≤ 1099511627776 → ∃ m : Nat, l.foldl (fun n e => cond (decide (cmpStr e.1 s < 0)) (IntKind.wrap .i64 (n + 1)) n) (n : Int) = (m : Int) ∧ m ≤ n + l.length
  | [], n, _ => ⟨n, rfl, Nat.le_refl _⟩
  | e :: l, n, h => by
    rw [List.foldl_cons]
    have h' : n + (l.length + 1) ≤ 1099511627776 := h
    cases decide (cmpStr e.1 s < 0) with
    | true =>
      rw [cond_true, wrap_succ (by unfold big; omega)]
      obtain ⟨m, h1, h2⟩ := rank_go s l (n + 1) (by omega)
      exact ⟨m, h1, by simp; omega⟩
    | false =>
      obtain ⟨m, h1, h2⟩ := rank_go s l n (by omega)
      exact ⟨m, h1, by simp; omega⟩
theorem rankOf_nat {l : List TEntry} (s : ByteArray) (h : l.length ≤ 1048576) : ∃ m : Nat, rankOf l s = (m : Int) ∧ m ≤ l.length := by
  obtain ⟨m, h1, h2⟩ := rank_go s l 0 (by omega)
  exact ⟨m, h1, by omega⟩
def gapOf (l : List TEntry) (r : Int) : TGap := (r, (cond (decide (r > 0)) (l.getD (Int.toNat (IntKind.wrap .i64 (r - 1))) (ByteArray.empty, (0, (0, [])))) zeroE, (cond (decide (r < (l.length : Int))) (l.getD (Int.toNat r) (ByteArray.empty, (0, (0, [])))) zeroE,
  (cond (decide (r > 0)) (proveEntry l (l.getD (Int.toNat (IntKind.wrap .i64 (r - 1))) (ByteArray.empty, (0, (0, [])))).1).1 zeroP, cond (decide (r < (l.length : Int))) (proveEntry l (l.getD (Int.toNat r) (ByteArray.empty, (0, (0, [])))).1).1 zeroP))))
def proveAbsence (l : List TEntry) (s : ByteArray) : TGap × Bool := cond (!(areEntries l)) (zeroG, false) (cond (!(isLabel s)) (zeroG, false) (cond (decide (findEntry l s ≥ 0)) (zeroG, false) (gapOf l (rankOf l s), true)))
theorem gapOf_len (l : List TEntry) (r : Int) : (gapOf l r).2.1.2.2.2.length ≤ wEs l ∧ (gapOf l r).2.2.1.2.2.2.length ≤ wEs l ∧ (gapOf l r).2.2.2.1.2.length ≤ wEs l ∧ (gapOf l r).2.2.2.2.2.length ≤ wEs l := by
  unfold gapOf
  have h0 : ∀ s, (proveEntry l s).1.2.length ≤ wEs l := fun s => Nat.le_trans (proveEntry_len l s) (wEs_ge l)
  cases decide (r > 0) <;> cases decide (r < (l.length : Int)) <;> simp only [cond_true, cond_false, zeroE, zeroP, List.length_nil, Nat.zero_le, true_and, and_true, entAt_len, h0]
theorem proveAbsence_len (l : List TEntry) (s : ByteArray) : (proveAbsence l s).1.2.1.2.2.2.length ≤ wEs l ∧ (proveAbsence l s).1.2.2.1.2.2.2.length ≤ wEs l ∧ (proveAbsence l s).1.2.2.2.1.2.length ≤ wEs l ∧ (proveAbsence l s).1.2.2.2.2.2.length ≤ wEs l := by
  unfold proveAbsence
  have := gapOf_len l (rankOf l s)
  cases areEntries l <;> cases isLabel s <;> cases decide (findEntry l s ≥ 0) <;> first | exact this | exact ⟨Nat.zero_le _, Nat.zero_le _, Nat.zero_le _, Nat.zero_le _⟩
def heldGp (p1 p2 : List ByteArray) (q1 q2 : List Int) (k : Int) : Int := thenH (neg1 (heldS p1 k)) fun k => thenH (neg1 (heldS p2 k)) fun k => thenH (neg1 (heldI q1 k)) fun k => neg1 (neg1 (heldI q2 k))
theorem heldGp_mk {a b c d : Nat} (h : a + b + c + d ≤ 1099511627776) : heldGp (mkS 1 a) (mkS (upI 1 a) b) (mkI (upI 1 (a + b)) c) (mkI (upI 1 (a + b + c)) d) 1 = upI 1 (a + b + c + d) := by
  unfold heldGp
  have e1 := upI1_nn (a := a) (by omega)
  have e2 := upI1_nn (a := a + b) (by omega)
  have e3 := upI1_nn (a := a + b + c) (by omega)
  have e4 := upI1_nn (a := a + b + c + d) (by omega)
  simp only [held_mkS, held_mkI, upI_add, neg1_of e1, thenH_of e1, neg1_of e2, thenH_of e2, neg1_of e3, thenH_of e3, neg1_of e4]
end Go.Proofs.Ytaghpijciobacaa.Ref

/-! ## PD -/
namespace Go.Proofs.Ytaghpijciobacaa.Ref
open Go.RowKit Go.Proofs.YtaghpijciobacaaW.PrintWords Go.Proofs.YtaghpijciobacaaW.PrintLast

abbrev TCur := List Int × (Int × Int)
def stepH (h : Int) : Int := IntKind.wrap .i64 (IntKind.wrap .i64 (h * 6364136223846793005) + 1442695040888963407)
def byteX (h : Int) : Int := andI .i64 (xorI .i64 (h / (2 : Int) ^ 33) (h / (2 : Int) ^ 47)) 255
def byteC (c : TCur) : TCur × Int := cond (decide (c.2.1 < (c.1.length : Int))) ((c.1, (IntKind.wrap .i64 (c.2.1 + 1), stepH c.2.2)), andI .i64 (IntKind.wrap .i64 (byteX (stepH c.2.2) + IntKind.wrap .i64 (c.1.getD c.2.1.toNat 0))) 255) ((c.1, (c.2.1, stepH c.2.2)), byteX (stepH c.2.2))
/-- A cursor that stands within a text of a possible length. -/
def okC (c : TCur) : Bool := decide (0 ≤ c.2.1) && decide (c.1.length ≤ 1048576)
theorem okC_byte {c : TCur} (h : okC c = true) : okC (byteC c).1 = true := by
  unfold okC at h ⊢
  simp only [Bool.and_eq_true, decide_eq_true_eq] at h
  unfold byteC
  cases hc : decide (c.2.1 < (c.1.length : Int)) with
  | false => simp only [cond_false, Bool.and_eq_true, decide_eq_true_eq]; exact h
  | true =>
    have := of_decide_eq_true hc
    simp only [cond_true, Bool.and_eq_true, decide_eq_true_eq]
    rw [wrap_id (by omega) (by omega)]
    exact ⟨by omega, h.2⟩
theorem and255 (x : Int) : 0 ≤ andI .i64 x 255 ∧ andI .i64 x 255 ≤ 255 := by
  have hle : (BitVec.ofInt IntKind.i64.bits x &&& BitVec.ofInt IntKind.i64.bits 255).toNat ≤ 255 := by
    rw [BitVec.toNat_and]
    exact Nat.le_trans Nat.and_le_right (by decide)
  have e : andI .i64 x 255 = ((BitVec.ofInt IntKind.i64.bits x &&& BitVec.ofInt IntKind.i64.bits 255).toNat : Int) := by
    unfold andI
    exact wrap_id (by omega) (by omega)
  rw [e]
  omega
theorem byteC_range (c : TCur) : 0 ≤ (byteC c).2 ∧ (byteC c).2 ≤ 255 := by
  unfold byteC
  cases decide (c.2.1 < (c.1.length : Int)) with
  | false => exact and255 _
  | true => exact and255 _
def belowC (c : TCur) (n : Int) : TCur × Int := cond (decide (n ≤ 0)) (c, 0) (cond (decide (n ≤ 256)) ((byteC c).1, Int.tmod (byteC c).2 n)
  ((byteC (byteC (byteC c).1).1).1, Int.tmod (IntKind.wrap .i64 (IntKind.wrap .i64 (IntKind.wrap .i64 ((byteC c).2 * 65536) + IntKind.wrap .i64 ((byteC (byteC c).1).2 * 256)) + (byteC (byteC (byteC c).1).1).2)) n))
theorem okC_below {c : TCur} (n : Int) (h : okC c = true) : okC (belowC c n).1 = true := by
  unfold belowC
  cases decide (n ≤ 0) with
  | true => exact h
  | false =>
    cases decide (n ≤ 256) with
    | true => exact okC_byte h
    | false => exact okC_byte (okC_byte (okC_byte h))
theorem tmod_range {a n : Int} (ha : 0 ≤ a) (hn : 0 < n) : 0 ≤ Int.tmod a n ∧ Int.tmod a n < n := ⟨Int.tmod_nonneg _ ha, Int.tmod_lt_of_pos _ hn⟩
theorem below_range (c : TCur) {n : Int} (hn : 0 < n) : 0 ≤ (belowC c n).2 ∧ (belowC c n).2 < n := by
  unfold belowC
  have h0 : decide (n ≤ 0) = false := decide_eq_false (by omega)
  rw [h0]
  have b1 := byteC_range c
  have b2 := byteC_range (byteC c).1
  have b3 := byteC_range (byteC (byteC c).1).1
  cases decide (n ≤ 256) with
  | true => exact tmod_range b1.1 hn
  | false =>
    refine tmod_range ?_ hn
    rw [wrap_id (n := (byteC c).2 * 65536) (by omega) (by omega), wrap_id (n := (byteC (byteC c).1).2 * 256) (by omega) (by omega), wrap_id (n := (byteC c).2 * 65536 + (byteC (byteC c).1).2 * 256) (by omega) (by omega), wrap_id (by omega) (by omega)]
    omega
def strC (c : TCur) (l : List ByteArray) : TCur × ByteArray := ((belowC c (l.length : Int)).1, l.getD (Int.toNat (belowC c (l.length : Int)).2) ByteArray.empty)
def intC (c : TCur) (l : List Int) : TCur × Int := ((belowC c (l.length : Int)).1, l.getD (Int.toNat (belowC c (l.length : Int)).2) 0)
def onceC (c : TCur) (n : Int) : TCur × Bool := ((belowC c n).1, (belowC c n).2 == 0)
theorem okC_str {c : TCur} (l : List ByteArray) (h : okC c = true) : okC (strC c l).1 = true := okC_below _ h
theorem okC_int {c : TCur} (l : List Int) (h : okC c = true) : okC (intC c l).1 = true := okC_below _ h
theorem okC_once {c : TCur} (n : Int) (h : okC c = true) : okC (onceC c n).1 = true := okC_below _ h
theorem pick_in {α : Type} (c : TCur) (l : List α) (hl : 0 < l.length) : inRange (belowC c (l.length : Int)).2 l.length = true := by
  have := below_range c (n := (l.length : Int)) (by omega)
  unfold inRange
  simp only [Bool.and_eq_true, decide_eq_true_eq]
  exact this
theorem str_mem (c : TCur) (l : List ByteArray) (hl : 0 < l.length) : (strC c l).2 ∈ l := by
  have := below_range c (n := (l.length : Int)) (by omega)
  exact getD_mem (by omega)
def labels : List ByteArray := [(ByteArray.mk #[97, 110, 110]), (ByteArray.mk #[98, 111, 98]), (ByteArray.mk #[98, 97, 110, 107]), (ByteArray.mk #[115, 104, 111, 112]), (ByteArray.mk #[115, 104, 48, 112]), (ByteArray.mk #[53, 104, 111, 112]), (ByteArray.mk #[109, 97, 105, 108]), (ByteArray.mk #[109, 97, 45, 105, 108]), (ByteArray.mk #[97])]
def oddLabels : List ByteArray := [(ByteArray.mk #[]), (ByteArray.mk #[45, 97]), (ByteArray.mk #[97, 45]), (ByteArray.mk #[65]), (ByteArray.mk #[97, 46, 98]), (ByteArray.mk #[97, 98, 99, 100, 101, 102, 103, 104]), (ByteArray.mk #[97, 98, 99, 100, 101, 102, 103, 104, 105]), (ByteArray.mk #[49, 108]), (ByteArray.mk #[108, 49]), (ByteArray.mk #[48])]
def labelC (c : TCur) : TCur × ByteArray := strC c labels
def anyL (c : TCur) : TCur × ByteArray := cond (onceC c 4).2 (strC (onceC c 4).1 oddLabels) (labelC (onceC c 4).1)
theorem okC_label {c : TCur} (h : okC c = true) : okC (labelC c).1 = true := okC_str _ h
theorem okC_anyL {c : TCur} (h : okC c = true) : okC (anyL c).1 = true := by
  unfold anyL
  cases (onceC c 4).2 with
  | true => exact okC_str _ (okC_once _ h)
  | false => exact okC_label (okC_once _ h)
theorem labels_le : ∀ s ∈ labels, s.size ≤ 9 := by
  unfold labels
  simp only [List.mem_cons, List.not_mem_nil, or_false, forall_eq_or_imp, forall_eq]
  decide
theorem oddLabels_le : ∀ s ∈ oddLabels, s.size ≤ 9 := by
  unfold oddLabels
  simp only [List.mem_cons, List.not_mem_nil, or_false, forall_eq_or_imp, forall_eq]
  decide
theorem label_le (c : TCur) : (labelC c).2.size ≤ 9 := labels_le _ (str_mem c labels (by decide))
theorem anyL_le (c : TCur) : (anyL c).2.size ≤ 9 := by
  unfold anyL
  cases (onceC c 4).2 with
  | true => exact oddLabels_le _ (str_mem _ oddLabels (by decide))
  | false => exact label_le _
def pathGo : Nat → TCur → List ByteArray → TCur × List ByteArray
  | 0, c, o => (c, o)
  | n + 1, c, o => pathGo n (labelC c).1 (o ++ [(labelC c).2])
def pathC (c : TCur) : TCur × List ByteArray := pathGo (1 + (belowC c 3).2).toNat (belowC c 3).1 []
theorem okC_pathGo : ∀ (n : Nat) {c : TCur} (o : List ByteArray), okC c = true → okC (pathGo n c o).1 = true
  | 0, _, _, h => h
  | n + 1, _, _, h => okC_pathGo n _ (okC_label h)
theorem okC_path {c : TCur} (h : okC c = true) : okC (pathC c).1 = true := okC_pathGo _ _ (okC_below _ h)
theorem wP_app : ∀ (a b : List ByteArray), wP (a ++ b) = wP a + wP b
  | [], b => by show wP b = 0 + wP b; omega
  | x :: a, b => by
    have h1 := wP_app a b
    have h2 : ∀ l, wP (x :: l) = wP l + 1 + x.size := fun l => by
      show (l.length + 1) + (x.size + wsum ByteArray.size l) = (l.length + wsum ByteArray.size l) + 1 + x.size
      omega
    rw [List.cons_append, h2, h2, h1]
    omega
theorem wP_one (x : ByteArray) : wP [x] = 1 + x.size := rfl
theorem pathGo_le : ∀ (n : Nat) (c : TCur) (o : List ByteArray), wP (pathGo n c o).2 ≤ wP o + 10 * n
  | 0, _, _ => Nat.le_refl _
  | n + 1, c, o => by
    have h1 := pathGo_le n (labelC c).1 (o ++ [(labelC c).2])
    have h2 := label_le c
    rw [wP_app, wP_one] at h1
    show wP (pathGo n (labelC c).1 (o ++ [(labelC c).2])).2 ≤ _
    omega
theorem path_le (c : TCur) : wP (pathC c).2 ≤ 30 := by
  have h1 := pathGo_le (1 + (belowC c 3).2).toNat (belowC c 3).1 []
  have h2 := below_range c (n := 3) (by omega)
  have h3 : wP [] = 0 := rfl
  unfold pathC
  omega
def anyP (c : TCur) : TCur × List ByteArray := cond ((belowC (pathC c).1 8).2 == 0) ((anyL (anyL (belowC (pathC c).1 8).1).1).1, (pathC c).2 ++ [(anyL (belowC (pathC c).1 8).1).2, (anyL (anyL (belowC (pathC c).1 8).1).1).2])
  (cond ((belowC (pathC c).1 8).2 == 1) ((belowC (pathC c).1 8).1, []) ((belowC (pathC c).1 8).1, (pathC c).2))
theorem okC_anyP {c : TCur} (h : okC c = true) : okC (anyP c).1 = true := by
  unfold anyP
  have h1 := okC_below 8 (okC_path h)
  cases ((belowC (pathC c).1 8).2 == 0) with
  | true => exact okC_anyL (okC_anyL h1)
  | false => cases ((belowC (pathC c).1 8).2 == 1) <;> exact h1
theorem anyP_le (c : TCur) : wP (anyP c).2 ≤ 50 := by
  unfold anyP
  have h1 := path_le c
  have h2 := anyL_le (belowC (pathC c).1 8).1
  have h3 := anyL_le (anyL (belowC (pathC c).1 8).1).1
  cases ((belowC (pathC c).1 8).2 == 0) with
  | true =>
    rw [cond_true]
    show wP ((pathC c).2 ++ ([_] ++ [_])) ≤ 50
    rw [wP_app, wP_app, wP_one, wP_one]
    omega
  | false =>
    cases ((belowC (pathC c).1 8).2 == 1) with
    | true => exact Nat.zero_le _
    | false =>
      rw [cond_false, cond_false]
      show wP (pathC c).2 ≤ 50
      omega
def entryC (c : TCur) : TCur × TEntry := cond ((belowC (labelC c).1 5).2 == 0) ((belowC (belowC (labelC c).1 5).1 5000).1, ((labelC c).2, (2, ((belowC (belowC (labelC c).1 5).1 5000).2, []))))
  (cond ((belowC (labelC c).1 5).2 == 1) ((pathC (belowC (belowC (labelC c).1 5).1 5000).1).1, ((labelC c).2, (3, ((belowC (belowC (labelC c).1 5).1 5000).2, (pathC (belowC (belowC (labelC c).1 5).1 5000).1).2))))
    ((belowC (belowC (labelC c).1 5).1 50).1, ((labelC c).2, (1, ((belowC (belowC (labelC c).1 5).1 50).2, [])))))
theorem okC_entry {c : TCur} (h : okC c = true) : okC (entryC c).1 = true := by
  unfold entryC
  have h1 := okC_below 5 (okC_label h)
  cases ((belowC (labelC c).1 5).2 == 0) with
  | true => exact okC_below _ h1
  | false =>
    cases ((belowC (labelC c).1 5).2 == 1) with
    | true => exact okC_path (okC_below _ h1)
    | false => exact okC_below _ h1
theorem entry_le (c : TCur) : (entryC c).2.1.size ≤ 9 ∧ wP (entryC c).2.2.2.2 ≤ 30 := by
  unfold entryC
  have h1 := label_le c
  cases ((belowC (labelC c).1 5).2 == 0) with
  | true => exact ⟨h1, Nat.zero_le _⟩
  | false =>
    cases ((belowC (labelC c).1 5).2 == 1) with
    | true => exact ⟨h1, path_le _⟩
    | false => exact ⟨h1, Nat.zero_le _⟩
def kindsO : List Int := [0, 1, 2, 3, 4]
def valuesO : List Int := [-1, 999999, 1000000, 2147483646, 2147483647]
def anyE (c : TCur) : TCur × TEntry := cond ((belowC (entryC c).1 10).2 == 0) ((intC (belowC (entryC c).1 10).1 kindsO).1, ((entryC c).2.1, ((intC (belowC (entryC c).1 10).1 kindsO).2, (entryC c).2.2.2)))
  (cond ((belowC (entryC c).1 10).2 == 1) ((intC (belowC (entryC c).1 10).1 valuesO).1, ((entryC c).2.1, ((entryC c).2.2.1, ((intC (belowC (entryC c).1 10).1 valuesO).2, (entryC c).2.2.2.2))))
    (cond ((belowC (entryC c).1 10).2 == 2) ((anyL (belowC (entryC c).1 10).1).1, ((anyL (belowC (entryC c).1 10).1).2, (entryC c).2.2))
      (cond ((belowC (entryC c).1 10).2 == 3) ((anyP (belowC (entryC c).1 10).1).1, ((entryC c).2.1, ((entryC c).2.2.1, ((entryC c).2.2.2.1, (anyP (belowC (entryC c).1 10).1).2)))) ((belowC (entryC c).1 10).1, (entryC c).2))))
theorem okC_anyE {c : TCur} (h : okC c = true) : okC (anyE c).1 = true := by
  unfold anyE
  have h1 := okC_below 10 (okC_entry h)
  cases ((belowC (entryC c).1 10).2 == 0) with
  | true => exact okC_int _ h1
  | false =>
    cases ((belowC (entryC c).1 10).2 == 1) with
    | true => exact okC_int _ h1
    | false =>
      cases ((belowC (entryC c).1 10).2 == 2) with
      | true => exact okC_anyL h1
      | false =>
        cases ((belowC (entryC c).1 10).2 == 3) with
        | true => exact okC_anyP h1
        | false => exact h1
theorem anyE_le (c : TCur) : (anyE c).2.1.size ≤ 9 ∧ wP (anyE c).2.2.2.2 ≤ 50 := by
  unfold anyE
  have h1 := entry_le c
  have h2 : wP (entryC c).2.2.2.2 ≤ 50 := by omega
  cases ((belowC (entryC c).1 10).2 == 0) with
  | true => exact ⟨h1.1, h2⟩
  | false =>
    cases ((belowC (entryC c).1 10).2 == 1) with
    | true => exact ⟨h1.1, h2⟩
    | false =>
      cases ((belowC (entryC c).1 10).2 == 2) with
      | true => exact ⟨anyL_le _, h2⟩
      | false =>
        cases ((belowC (entryC c).1 10).2 == 3) with
        | true => exact ⟨h1.1, anyP_le _⟩
        | false => exact ⟨h1.1, h2⟩
/-! The cursor's beginning. -/
def newStep (h x : Int) : Int := andI .i64 (IntKind.wrap .i64 (IntKind.wrap .i64 (IntKind.wrap .i64 (h * 137) + IntKind.wrap .i64 x) + 11)) 1073741823
def newC (l : List Int) : TCur := (l, (0, (l.take 4000).foldl newStep (IntKind.wrap .i64 (193017 + (l.length : Int)))))
theorem okC_new {l : List Int} (h : l.length ≤ 1048576) : okC (newC l) = true := by
  unfold okC newC
  simp only [Bool.and_eq_true, decide_eq_true_eq]
  exact ⟨Int.le_refl 0, h⟩
theorem raw_new {ρ : Type} {l : List Int} {k : Int → Option ρ} {L : Nat → Int → Int → Option ρ} (hl : l.length ≤ big)
    (h1 : ∀ m h i, L (m + 1) h i = cond (decide (i < (l.length : Int))) (cond (decide (i < (4000 : Int))) (cond (inRange i l.length) (L m (newStep h (l.getD i.toNat 0)) (IntKind.wrap .i64 (i + 1))) none) (k h)) (k h)) :
    ∀ (d n j : Nat) (h : Int), d + j = l.length → d < n → L n h (j : Int) = k (((l.take 4000).drop j).foldl newStep h)
  | 0, 0, _, _, _, hn => absurd hn (Nat.lt_irrefl 0)
  | d + 1, 0, _, _, _, hn => absurd hn (Nat.not_lt_zero _)
  | 0, n + 1, j, h, hd, _ => by
    have : ¬ j < l.length := by omega
    rw [h1, lt_nat, decide_eq_false this, cond_false, List.drop_eq_nil_of_le (by rw [List.length_take]; omega)]
    rfl
  | d + 1, n + 1, j, h, hd, hn => by
    have hj : j < l.length := by omega
    rw [h1, lt_nat, decide_eq_true hj, cond_true]
    by_cases h4 : j < 4000
    · have e4 : decide ((j : Int) < 4000) = true := decide_eq_true (by omega)
      have hb : j < big := by omega
      rw [e4, inRange_nat, decide_eq_true hj, wrap_succ hb]
      simp only [cond_true, Int.toNat_natCast]
      rw [raw_new hl h1 d n (j + 1) _ (by omega) (by omega)]
      have hjt : j < (l.take 4000).length := by rw [List.length_take]; omega
      have hg : (l.take 4000).getD j 0 = l.getD j 0 := by rw [List.getD_eq_getElem?_getD, List.getD_eq_getElem?_getD, List.getElem?_take_of_lt h4]
      rw [drop_cons 0 hjt, List.foldl_cons, hg]
    · have e4 : decide ((j : Int) < 4000) = false := decide_eq_false (by omega)
      rw [e4, cond_false, List.drop_eq_nil_of_le (by rw [List.length_take]; omega)]
      rfl
theorem eqStr_iff {a b : ByteArray} : eqStr a b = true ↔ a = b := by
  unfold eqStr
  constructor
  · intro h
    have h : a.toList = b.toList := by simpa using h
    rw [ByteArray.toList_eq, ByteArray.toList_eq] at h
    cases a with
    | mk x =>
      cases b with
      | mk y =>
        have : x = y := Array.ext' h
        rw [this]
  · intro h; subst h; simp
theorem eqStrs_iff {a b : List ByteArray} (h : eqStrs a b = true) : a = b := by
  unfold eqStrs eqL at h
  rw [Bool.and_eq_true, beq_iff_eq, allN_iff] at h
  apply List.ext_getElem h.1
  intro i h1 h2
  have := h.2 i (Nat.zero_le _) (by omega)
  rw [List.getD_eq_getElem?_getD, List.getD_eq_getElem?_getD, List.getElem?_eq_getElem h1, List.getElem?_eq_getElem h2] at this
  exact eqStr_iff.1 this
theorem eqEntry_iff {a b : TEntry} (h : eqEntry a b = true) : a = b := by
  unfold eqEntry at h
  simp only [Bool.and_eq_true, beq_iff_eq] at h
  obtain ⟨a1, a2, a3, a4⟩ := a
  obtain ⟨b1, b2, b3, b4⟩ := b
  obtain ⟨h1, h2, h3, h4⟩ := h
  simp only at h1 h2 h3 h4
  rw [eqStr_iff.1 h1, h2, h3, eqStrs_iff h4]
def twoE (l : List Int) : TEntry × TEntry := cond (onceC (anyE (newC l)).1 2).2 ((anyE (newC l)).2, (anyE (newC l)).2) ((anyE (newC l)).2, (anyE (onceC (anyE (newC l)).1 2).1).2)
theorem wE_small {e : TEntry} (h : e.1.size ≤ 9 ∧ wP e.2.2.2 ≤ 50) : wE e ≤ 59 := by unfold wE; omega
theorem twoE_le (l : List Int) : wE (twoE l).1 ≤ 59 ∧ wE (twoE l).2 ≤ 59 := by
  unfold twoE
  have h1 := wE_small (anyE_le (newC l))
  have h2 := wE_small (anyE_le (onceC (anyE (newC l)).1 2).1)
  cases (onceC (anyE (newC l)).1 2).2 with
  | true => exact ⟨h1, h1⟩
  | false => exact ⟨h1, h2⟩
def movedE (l : List Int) : ByteArray × (Int × List ByteArray) := ((anyL (newC l)).2, ((belowC (anyL (newC l)).1 99).2, (anyP (belowC (anyL (newC l)).1 99).1).2))
theorem movedE_le (l : List Int) : (movedE l).1.size ≤ 9 ∧ (0 ≤ (movedE l).2.1 ∧ (movedE l).2.1 < 99) ∧ wP (movedE l).2.2 ≤ 50 := ⟨anyL_le _, below_range _ (by omega), anyP_le _⟩
theorem value_isEntry {s : ByteArray} {n : Int} (h : 0 ≤ n ∧ n < 99) : isEntry (s, (1, (n, []))) = isLabel s := by
  have e : inR n 0 999999 = true := by unfold inR; rw [decide_eq_true h.1, decide_eq_true (by omega)]; rfl
  unfold isEntry
  simp [e]
theorem moved_isEntry {s : ByteArray} {n : Int} {p : List ByteArray} (h : 0 ≤ n ∧ n < 99) : isEntry (s, (3, (n, p))) = (isLabel s && isPath p) := by
  have e : isDigest n = true := by unfold isDigest inR; rw [decide_eq_true h.1, decide_eq_true (by omega)]; rfl
  unfold isEntry
  simp [e]
/-! Keys and heads that are drawn. -/
def keysGo : Nat → Int → TCur → List Int → TCur × List Int
  | 0, _, c, o => (c, o)
  | d + 1, at', c, o => keysGo d (IntKind.wrap .i64 (IntKind.wrap .i64 (at' + 1) + (belowC c 3).2)) (belowC c 3).1 (o ++ [IntKind.wrap .i64 (IntKind.wrap .i64 (at' + 1) + (belowC c 3).2)])
theorem okC_keysGo : ∀ (d : Nat) (at' : Int) {c : TCur} (o : List Int), okC c = true → okC (keysGo d at' c o).1 = true
  | 0, _, _, _, h => h
  | d + 1, _, _, _, h => okC_keysGo d _ _ (okC_below _ h)
theorem keysGo_len : ∀ (d : Nat) (at' : Int) (c : TCur) (o : List Int), (keysGo d at' c o).2.length = o.length + d
  | 0, _, _, _ => rfl
  | d + 1, at', c, o => by
    show (keysGo d _ _ (o ++ [_])).2.length = _
    rw [keysGo_len d]
    simp
    omega
/-- How many keys are drawn. -/
def keysN (c : TCur) : Nat := (1 + (belowC c 3).2).toNat
theorem keysN_le (c : TCur) : keysN c ≤ 3 ∧ 1 ≤ keysN c ∧ IntKind.wrap .i64 (1 + (belowC c 3).2) = (keysN c : Int) := by
  have h2 := below_range c (n := 3) (by omega)
  unfold keysN
  rw [wrap_id (by omega) (by omega)]
  omega
def keysL (c : TCur) : TCur × List Int := keysGo (keysN c) (belowC (belowC c 3).1 4).2 (belowC (belowC c 3).1 4).1 []
def keysC (c : TCur) : TCur × TKeys := ((belowC (keysL c).1 (keysN c : Int)).1, ((keysL c).2, IntKind.wrap .i64 (1 + (belowC (keysL c).1 (keysN c : Int)).2)))
theorem okC_keys {c : TCur} (h : okC c = true) : okC (keysC c).1 = true := okC_below _ (okC_keysGo _ _ _ (okC_below _ (okC_below _ h)))
theorem keys_le (c : TCur) : (keysC c).2.1.length ≤ 3 := by
  show (keysGo _ _ _ []).2.length ≤ 3
  rw [keysGo_len]
  have := (keysN_le c).1
  simp
  exact this
def anyK (c : TCur) : TCur × TKeys := (cond ((belowC (keysC c).1 10).2 == 0) (((intC (belowC (keysC c).1 10).1 [0, -1, 5]).1, ((keysC c).2.1, (intC (belowC (keysC c).1 10).1 [0, -1, 5]).2))) (cond ((belowC (keysC c).1 10).2 == 1) (((intC (belowC (keysC c).1 10).1 [1, 99, 100]).1, ((List.append (keysC c).2.1 [(intC (belowC (keysC c).1 10).1 [1, 99, 100]).2]), (keysC c).2.2))) (cond ((belowC (keysC c).1 10).2 == 2) (((belowC (keysC c).1 10).1, (([] : List Int), (keysC c).2.2))) (((belowC (keysC c).1 10).1, (keysC c).2)))))
theorem okC_anyK {c : TCur} (h : okC c = true) : okC (anyK c).1 = true := by
  unfold anyK
  have h1 := okC_below 10 (okC_keys h)
  cases ((belowC (keysC c).1 10).2 == 0) with
  | true => exact okC_int _ h1
  | false =>
    cases ((belowC (keysC c).1 10).2 == 1) with
    | true => exact okC_int _ h1
    | false => cases ((belowC (keysC c).1 10).2 == 2) <;> exact h1
theorem anyK_le (c : TCur) : (anyK c).2.1.length ≤ 4 := by
  unfold anyK
  have h1 := keys_le c
  cases ((belowC (keysC c).1 10).2 == 0) with
  | true => exact Nat.le_succ_of_le h1
  | false =>
    cases ((belowC (keysC c).1 10).2 == 1) with
    | true =>
      show ((keysC c).2.1 ++ [_]).length ≤ 4
      rw [List.length_append]
      exact Nat.succ_le_succ h1
    | false =>
      cases ((belowC (keysC c).1 10).2 == 2) with
      | true => exact Nat.zero_le _
      | false => exact Nat.le_succ_of_le h1
/-- A head before heirs and judge are drawn. -/
def headB (c : TCur) : TCur × THead :=
  let p1 := belowC c 50
  let p2 := belowC p1.1 4
  let p3 := belowC p2.1 3
  let p4 := belowC p3.1 40
  let p5 := belowC p4.1 90
  let p6 := belowC p5.1 9
  let p7 := belowC p6.1 5
  let p8 := keysC p7.1
  let p9 := belowC p8.1 60
  (p9.1, (p1.2, (p2.2, (IntKind.wrap .i64 (1 + p3.2), (p4.2, (IntKind.wrap .i64 (p4.2 + p9.2), (p7.2, (p5.2, (p6.2, (p8.2, (([], 0), (0, (([], 0), false)))))))))))))
def headI (b : TCur × THead) : TCur × THead := cond (onceC b.1 2).2
  ((belowC (keysC (onceC b.1 2).1).1 30).1, (b.2.1, (b.2.2.1, (b.2.2.2.1, (b.2.2.2.2.1, (b.2.2.2.2.2.1, (b.2.2.2.2.2.2.1, (b.2.2.2.2.2.2.2.1, (b.2.2.2.2.2.2.2.2.1, (b.2.2.2.2.2.2.2.2.2.1, ((keysC (onceC b.1 2).1).2, (IntKind.wrap .i64 (1 + (belowC (keysC (onceC b.1 2).1).1 30).2), b.2.2.2.2.2.2.2.2.2.2.2.2))))))))))))
  ((onceC b.1 2).1, b.2)
def headJ (b : TCur × THead) : TCur × THead := cond (onceC b.1 2).2
  ((onceC (keysC (onceC b.1 2).1).1 3).1, (b.2.1, (b.2.2.1, (b.2.2.2.1, (b.2.2.2.2.1, (b.2.2.2.2.2.1, (b.2.2.2.2.2.2.1, (b.2.2.2.2.2.2.2.1, (b.2.2.2.2.2.2.2.2.1, (b.2.2.2.2.2.2.2.2.2.1, (b.2.2.2.2.2.2.2.2.2.2.1, (b.2.2.2.2.2.2.2.2.2.2.2.1, ((keysC (onceC b.1 2).1).2, (onceC (keysC (onceC b.1 2).1).1 3).2)))))))))))))
  ((onceC b.1 2).1, b.2)
def headC (c : TCur) : TCur × THead := headJ (headI (headB c))
theorem okC_headB {c : TCur} (h : okC c = true) : okC (headB c).1 = true := okC_below _ (okC_keys (okC_below _ (okC_below _ (okC_below _ (okC_below _ (okC_below _ (okC_below _ (okC_below _ h))))))))
theorem okC_headI {b : TCur × THead} (h : okC b.1 = true) : okC (headI b).1 = true := by
  unfold headI
  cases (onceC b.1 2).2 with
  | true => exact okC_below _ (okC_keys (okC_once _ h))
  | false => exact okC_once _ h
theorem okC_headJ {b : TCur × THead} (h : okC b.1 = true) : okC (headJ b).1 = true := by
  unfold headJ
  cases (onceC b.1 2).2 with
  | true => exact okC_once _ (okC_keys (okC_once _ h))
  | false => exact okC_once _ h
theorem okC_head {c : TCur} (h : okC c = true) : okC (headC c).1 = true := okC_headJ (okC_headI (okC_headB h))
/-- No list of a head's keys is longer than four. -/
def leH (h : THead) : Prop := h.2.2.2.2.2.2.2.2.1.1.length ≤ 4 ∧ h.2.2.2.2.2.2.2.2.2.1.1.length ≤ 4 ∧ h.2.2.2.2.2.2.2.2.2.2.2.1.1.length ≤ 4
theorem wH_le {h : THead} (x : leH h) : wH h ≤ 12 := by
  obtain ⟨h1, h2, h3⟩ := x
  unfold wH wK
  omega
theorem keys_le4 (c : TCur) : (keysC c).2.1.length ≤ 4 := Nat.le_succ_of_le (keys_le c)
theorem headC_le (c : TCur) : leH (headC c).2 := by
  have h1 : leH (headB c).2 := ⟨keys_le4 _, Nat.zero_le _, Nat.zero_le _⟩
  have h2 : leH (headI (headB c)).2 := by
    unfold headI
    cases (onceC (headB c).1 2).2 with
    | true => exact ⟨h1.1, keys_le4 _, h1.2.2⟩
    | false => exact h1
  show leH (headJ (headI (headB c))).2
  unfold headJ
  cases (onceC (headI (headB c)).1 2).2 with
  | true => exact ⟨h2.1, h2.2.1, keys_le4 _⟩
  | false => exact h2
def anyHp (p : TCur × THead) : TCur × THead := (cond ((belowC p.1 14).2 == 0) (((intC (belowC p.1 14).1 [-1, 240, 241, 100000, 100001]).1, (p.2.1, (p.2.2.1, (p.2.2.2.1, (p.2.2.2.2.1, ((intC (belowC p.1 14).1 [-1, 240, 241, 100000, 100001]).2, p.2.2.2.2.2.2))))))) (cond ((belowC p.1 14).2 == 1) (((intC (belowC p.1 14).1 [-1, 200, 201]).1, (p.2.1, ((intC (belowC p.1 14).1 [-1, 200, 201]).2, p.2.2.2)))) (cond ((belowC p.1 14).2 == 2) (((intC (belowC p.1 14).1 [0, 1, 500, 501]).1, (p.2.1, (p.2.2.1, (p.2.2.2.1, (p.2.2.2.2.1, (p.2.2.2.2.2.1, (p.2.2.2.2.2.2.1, (p.2.2.2.2.2.2.2.1, (p.2.2.2.2.2.2.2.2.1, (p.2.2.2.2.2.2.2.2.2.1, (p.2.2.2.2.2.2.2.2.2.2.1, ((intC (belowC p.1 14).1 [0, 1, 500, 501]).2, p.2.2.2.2.2.2.2.2.2.2.2.2))))))))))))) (cond ((belowC p.1 14).2 == 3) (((anyK (belowC p.1 14).1).1, (p.2.1, (p.2.2.1, (p.2.2.2.1, (p.2.2.2.2.1, (p.2.2.2.2.2.1, (p.2.2.2.2.2.2.1, (p.2.2.2.2.2.2.2.1, (p.2.2.2.2.2.2.2.2.1, ((anyK (belowC p.1 14).1).2, p.2.2.2.2.2.2.2.2.2.2))))))))))) (cond ((belowC p.1 14).2 == 4) (((intC (belowC p.1 14).1 [0, 4]).1, (p.2.1, (p.2.2.1, ((intC (belowC p.1 14).1 [0, 4]).2, p.2.2.2.2))))) (cond ((belowC p.1 14).2 == 5) (((belowC p.1 14).1, (p.2.1, (p.2.2.1, (p.2.2.2.1, (p.2.2.2.2.1, (p.2.2.2.2.2.1, (p.2.2.2.2.2.2.1, (p.2.2.2.2.2.2.2.1, (p.2.2.2.2.2.2.2.2.1, (p.2.2.2.2.2.2.2.2.2.1, (p.2.2.2.2.2.2.2.2.2.2.1, (p.2.2.2.2.2.2.2.2.2.2.2.1, (p.2.2.2.2.2.2.2.2.2.2.2.2.1, true)))))))))))))) (cond ((belowC p.1 14).2 == 6) (((anyK (belowC p.1 14).1).1, (p.2.1, (p.2.2.1, (p.2.2.2.1, (p.2.2.2.2.1, (p.2.2.2.2.2.1, (p.2.2.2.2.2.2.1, (p.2.2.2.2.2.2.2.1, (p.2.2.2.2.2.2.2.2.1, (p.2.2.2.2.2.2.2.2.2.1, (p.2.2.2.2.2.2.2.2.2.2.1, (p.2.2.2.2.2.2.2.2.2.2.2.1, ((anyK (belowC p.1 14).1).2, p.2.2.2.2.2.2.2.2.2.2.2.2.2)))))))))))))) (((belowC p.1 14).1, p.2)))))))))
def anyH (c : TCur) : TCur × THead := anyHp (headC c)
theorem okC_anyHp {p : TCur × THead} (h : okC p.1 = true) : okC (anyHp p).1 = true := by
  unfold anyHp
  have h1 := okC_below 14 h
  cases ((belowC p.1 14).2 == 0) with
  | true => exact okC_int _ h1
  | false =>
    cases ((belowC p.1 14).2 == 1) with
    | true => exact okC_int _ h1
    | false =>
      cases ((belowC p.1 14).2 == 2) with
      | true => exact okC_int _ h1
      | false =>
        cases ((belowC p.1 14).2 == 3) with
        | true => exact okC_anyK h1
        | false =>
          cases ((belowC p.1 14).2 == 4) with
          | true => exact okC_int _ h1
          | false =>
            cases ((belowC p.1 14).2 == 5) with
            | true => exact h1
            | false =>
              cases ((belowC p.1 14).2 == 6) with
              | true => exact okC_anyK h1
              | false => exact h1
theorem okC_anyH {c : TCur} (h : okC c = true) : okC (anyH c).1 = true := okC_anyHp (okC_head h)
theorem anyHp_le {p : TCur × THead} (h1 : leH p.2) : leH (anyHp p).2 := by
  unfold anyHp
  cases ((belowC p.1 14).2 == 0) with
  | true => exact h1
  | false =>
    cases ((belowC p.1 14).2 == 1) with
    | true => exact h1
    | false =>
      cases ((belowC p.1 14).2 == 2) with
      | true => exact h1
      | false =>
        cases ((belowC p.1 14).2 == 3) with
        | true => exact ⟨anyK_le _, h1.2.1, h1.2.2⟩
        | false =>
          cases ((belowC p.1 14).2 == 4) with
          | true => exact h1
          | false =>
            cases ((belowC p.1 14).2 == 5) with
            | true => exact h1
            | false =>
              cases ((belowC p.1 14).2 == 6) with
              | true => exact ⟨h1.1, h1.2.1, anyK_le _⟩
              | false => exact h1
theorem anyH_le (c : TCur) : leH (anyH c).2 := anyHp_le (headC_le c)
def twoH (c : List Int) : THead × THead := (cond (onceC (anyH (newC c)).1 2).2 (((anyH (newC c)).2, ((anyH (newC c)).2))) (((anyH (newC c)).2, (anyH (onceC (anyH (newC c)).1 2).1).2)))
theorem twoH_le (l : List Int) : wH (twoH l).1 ≤ 12 ∧ wH (twoH l).2 ≤ 12 := by
  unfold twoH
  have h1 := wH_le (anyH_le (newC l))
  have h2 := wH_le (anyH_le (onceC (anyH (newC l)).1 2).1)
  generalize anyH (newC l) = x at *
  generalize anyH (onceC x.1 2).1 = y at *
  cases (onceC x.1 2).2 with
  | true => exact ⟨h1, h1⟩
  | false => exact ⟨h1, h2⟩
def freshH (c : List Int) : THead × Int := (cond (onceC (anyH (newC c)).1 2).2 (((anyH (newC c)).2, (IntKind.wrap .i64 ((IntKind.wrap .i64 ((anyH (newC c)).2.2.2.2.2.1 + (belowC (onceC (anyH (newC c)).1 2).1 3).2)) - 1)))) (((anyH (newC c)).2, (belowC (onceC (anyH (newC c)).1 2).1 100).2)))
def noK (c : List Int) : TKeys := (cond (onceC (newC c) 2).2 ([], (belowC (onceC (newC c) 2).1 2).2) ((anyK (onceC (newC c) 2).1).2))
theorem equalHeads_digest {a b : THead} (h : equalHeads a b = true) : headDigest a = headDigest b := by
  unfold equalHeads at h
  have := eqInts_iff.1 ((Bool.and_eq_true _ _).mp h).1
  unfold headDigest
  rw [this]
end Go.Proofs.Ytaghpijciobacaa.Ref
