/- The proof system: an abstract machine over data, and that what it computes the code computes.
   Conditions: as each theorem states. -/
import Derived.Test.YthgbcbnmdioknaaK3
set_option linter.unusedVariables false
set_option linter.unusedSimpArgs false
namespace Go.Proofs.Ythgbcbnmdioknaa.Ref
open Go.RowKit Go.Proofs.YthgbcbnmdioknaaW.PrintWords Go.Proofs.YthgbcbnmdioknaaW.PrintLast

abbrev pM : Nat := 2147483647
abbrev kM : Nat := 1000003
theorem mac (X A B : Nat) : ((X % pM) * A + B) % pM = (X * A + B) % pM := by rw [← Nat.mod_add_mod, Nat.mod_mul_mod, Nat.mod_add_mod]
theorem mac2 (X A B : Nat) : (X * (A % pM) + B) % pM = (X * A + B) % pM := by rw [Nat.mul_comm, mac, Nat.mul_comm]
theorem stepN_is (a v : Nat) : stepN a v = (a * kM + v + 13) % pM := rfl
theorem aff_arith (c M v A B : Nat) : (c * M + v + 13) * A + B = (0 * M + v + 13) * A + (B + c * (A * M)) := by
  rw [Nat.zero_mul, Nat.zero_add, Nat.add_assoc, Nat.add_mul, Nat.mul_assoc, Nat.mul_comm M A]
  omega
theorem var_arith (s v A B : Nat) : (s + v + 13) * A + B = (s + 0 + 13) * A + (B + v * A) := by
  have e1 : s + 0 + 13 = s + 13 := rfl
  have e2 : s + v + 13 = (s + 13) + v := by omega
  rw [e1, e2, Nat.add_mul _ v]
  omega
theorem fold_aff : ∀ (l : List Nat) (c : Nat), c < pM → l.foldl stepN c = (c * kM ^ l.length + l.foldl stepN 0) % pM
  | [], c, h => by
    show c = (c * 1 + 0) % pM
    rw [Nat.mul_one, Nat.add_zero, Nat.mod_eq_of_lt h]
  | v :: l, c, h => by
    rw [List.foldl_cons, List.foldl_cons, fold_aff l (stepN c v) (stepN_lt c v), fold_aff l (stepN 0 v) (stepN_lt 0 v), Nat.add_mod_mod, List.length_cons, stepN_is, stepN_is, mac,
      Nat.add_comm (c * kM ^ (l.length + 1)), Nat.add_assoc ((0 * kM + v + 13) % pM * kM ^ l.length), mac, Nat.pow_succ]
    exact congrArg (fun x => x % pM) (aff_arith c kM v _ _)
/-- A number ahead of a list, taken out. -/
theorem fold_var (l : List Nat) (s v : Nat) : (v :: l).foldl stepN s = ((0 :: l).foldl stepN s + v * kM ^ l.length) % pM := by
  rw [List.foldl_cons, List.foldl_cons, fold_aff l (stepN s v) (stepN_lt s v), fold_aff l (stepN s 0) (stepN_lt s 0), Nat.mod_add_mod, stepN_is, stepN_is, mac]
  rw [Nat.add_assoc ((s * kM + 0 + 13) % pM * kM ^ l.length), mac]
  exact congrArg (fun x => x % pM) (var_arith (s * kM) v _ _)
abbrev Row := Nat × Nat × Nat
def rowsA : List Row := [(1604566856, 1988753848, 4), (1604566856, 1268374346, 4), (1953433226, 125738872, 5), (1953433226, 34730484, 5), (1953433226, 2119213942, 5), (1953433226, 1533894359, 5), (1953433226, 928499994, 5), (2061642598, 1853543864, 6), (1426104154, 14000152, 2)]
def rowsB : List Row := [(1274554124, 117390411, 9), (1049561761, 2126209794, 3), (1049561761, 37726265, 3), (1426104154, 14000103, 2)]
def accA : List Nat := [550671844, 1977775989, 2001510174, 1910501786, 1847501597, 1262182014, 656787649, 1209327151, 1636858375]
def accB : List Nat := [1592256544, 1088328328, 1147328446, 1636858326]
def goodL : List ByteArray := [(ByteArray.mk #[97, 98, 99, 100, 101, 102, 103, 104]), (ByteArray.mk #[49, 108]), (ByteArray.mk #[108, 49]), (ByteArray.mk #[48])]
structure IsRow (s : ByteArray) (ns : List Nat) (r : Row) (a : Nat) : Prop where
  ints : labelInts s = castL ns
  small : ∀ v ∈ ns, v < pM
  aff : r = (kM ^ ns.length % pM, ns.foldl stepN 0, ns.length)
  acc : a = (227 :: ns).foldl stepN 11
theorem isRow_at {s : ByteArray} {ns : List Nat} {r : Row} {a : Nat} (h1 : labelInts s = castL ns) (h2 : ns.all (fun v => Nat.blt v pM) = true) (h3 : r = (kM ^ ns.length % pM, ns.foldl stepN 0, ns.length)) (h4 : a = (227 :: ns).foldl stepN 11) : IsRow s ns r a :=
  ⟨h1, fun v hv => Nat.le_of_ble_eq_true (List.all_eq_true.1 h2 v hv), h3, h4⟩
theorem labels_row {s : ByteArray} (h : s ∈ labels) : ∃ ns r a, IsRow s ns r a ∧ r ∈ rowsA ∧ a ∈ accA := by
  unfold labels at h
  simp only [List.mem_cons, List.not_mem_nil, or_false] at h
  rcases h with rfl | rfl | rfl | rfl | rfl | rfl | rfl | rfl | rfl
  · exact ⟨[3, 97, 110, 110], (1604566856, 1988753848, 4), 550671844, isRow_at (by kernel_rfl) (by kernel_rfl) (by kernel_rfl) (by kernel_rfl), by simp [rowsA], by simp [accA]⟩
  · exact ⟨[3, 98, 111, 98], (1604566856, 1268374346, 4), 1977775989, isRow_at (by kernel_rfl) (by kernel_rfl) (by kernel_rfl) (by kernel_rfl), by simp [rowsA], by simp [accA]⟩
  · exact ⟨[4, 98, 97, 110, 107], (1953433226, 125738872, 5), 2001510174, isRow_at (by kernel_rfl) (by kernel_rfl) (by kernel_rfl) (by kernel_rfl), by simp [rowsA], by simp [accA]⟩
  · exact ⟨[4, 115, 104, 111, 112], (1953433226, 34730484, 5), 1910501786, isRow_at (by kernel_rfl) (by kernel_rfl) (by kernel_rfl) (by kernel_rfl), by simp [rowsA], by simp [accA]⟩
  · exact ⟨[4, 115, 104, 48, 112], (1953433226, 2119213942, 5), 1847501597, isRow_at (by kernel_rfl) (by kernel_rfl) (by kernel_rfl) (by kernel_rfl), by simp [rowsA], by simp [accA]⟩
  · exact ⟨[4, 53, 104, 111, 112], (1953433226, 1533894359, 5), 1262182014, isRow_at (by kernel_rfl) (by kernel_rfl) (by kernel_rfl) (by kernel_rfl), by simp [rowsA], by simp [accA]⟩
  · exact ⟨[4, 109, 97, 105, 108], (1953433226, 928499994, 5), 656787649, isRow_at (by kernel_rfl) (by kernel_rfl) (by kernel_rfl) (by kernel_rfl), by simp [rowsA], by simp [accA]⟩
  · exact ⟨[5, 109, 97, 45, 105, 108], (2061642598, 1853543864, 6), 1209327151, isRow_at (by kernel_rfl) (by kernel_rfl) (by kernel_rfl) (by kernel_rfl), by simp [rowsA], by simp [accA]⟩
  · exact ⟨[1, 97], (1426104154, 14000152, 2), 1636858375, isRow_at (by kernel_rfl) (by kernel_rfl) (by kernel_rfl) (by kernel_rfl), by simp [rowsA], by simp [accA]⟩
theorem good_row {s : ByteArray} (h : s ∈ goodL) : ∃ ns r a, IsRow s ns r a ∧ r ∈ rowsB ∧ a ∈ accB := by
  unfold goodL at h
  simp only [List.mem_cons, List.not_mem_nil, or_false] at h
  rcases h with rfl | rfl | rfl | rfl
  · exact ⟨[8, 97, 98, 99, 100, 101, 102, 103, 104], (1274554124, 117390411, 9), 1592256544, isRow_at (by kernel_rfl) (by kernel_rfl) (by kernel_rfl) (by kernel_rfl), by simp [rowsB], by simp [accB]⟩
  · exact ⟨[2, 49, 108], (1049561761, 2126209794, 3), 1088328328, isRow_at (by kernel_rfl) (by kernel_rfl) (by kernel_rfl) (by kernel_rfl), by simp [rowsB], by simp [accB]⟩
  · exact ⟨[2, 108, 49], (1049561761, 37726265, 3), 1147328446, isRow_at (by kernel_rfl) (by kernel_rfl) (by kernel_rfl) (by kernel_rfl), by simp [rowsB], by simp [accB]⟩
  · exact ⟨[1, 48], (1426104154, 14000103, 2), 1636858326, isRow_at (by kernel_rfl) (by kernel_rfl) (by kernel_rfl) (by kernel_rfl), by simp [rowsB], by simp [accB]⟩
theorem odd_good {s : ByteArray} (h : s ∈ oddLabels) (hl : isLabel s = true) : s ∈ goodL := by
  unfold oddLabels at h
  simp only [List.mem_cons, List.not_mem_nil, or_false] at h
  rcases h with rfl | rfl | rfl | rfl | rfl | rfl | rfl | rfl | rfl | rfl
  · exact absurd hl (by decide)
  · exact absurd hl (by decide)
  · exact absurd hl (by decide)
  · exact absurd hl (by decide)
  · exact absurd hl (by decide)
  · simp [goodL]
  · exact absurd hl (by decide)
  · simp [goodL]
  · simp [goodL]
  · simp [goodL]
def goRow (c : Nat) (x : Row) : Nat := (c * x.1 + x.2.1) % pM
def walk (T : List Row) (leaf : Nat → List Nat → Bool) : Nat → Nat → List Nat → Bool
  | 0, c, I => leaf c I
  | d + 1, c, I => T.all fun x => walk T leaf d (goRow c x) (I.drop x.2.2)
def wide (xs : List Row) : Nat := wsum (fun x : Row => x.2.2) xs
theorem walk_at {T : List Row} {leaf : Nat → List Nat → Bool} : ∀ (xs : List Row) (c : Nat) (I : List Nat), walk T leaf xs.length c I = true → (∀ x ∈ xs, x ∈ T) → leaf (xs.foldl goRow c) (I.drop (wide xs)) = true
  | [], c, I, h, _ => h
  | x :: xs, c, I, h, hm => by
    have h : (T.all fun x => walk T leaf xs.length (goRow c x) (I.drop x.2.2)) = true := h
    have h1 := List.all_eq_true.1 h x (hm x (List.mem_cons_self ..))
    have h2 := walk_at xs _ _ h1 (fun y hy => hm y (List.mem_cons_of_mem _ hy))
    rw [List.drop_drop] at h2
    exact h2
/-- The inverses of 1000003^m - 1000003, m = 1, 2, .. -/
def invT : List Nat := [0, 2058487184, 1753381083, 463959008, 321312697, 1717421155, 43036314, 46351190, 929816754, 561992160, 1232443390, 74364424, 450527512, 1074377814, 858379217, 384011902, 2021801970, 1191760175, 1100327128, 1764125585, 2071181486, 351987648, 132274590, 1778018275, 1781302757, 421036236, 868732671, 1299652727, 80888899, 2089139843, 877082193, 971509092, 810158017, 1842915390, 585646108, 790548064, 1723263357]
def powT : List Nat := [1000003, 1426104154, 1049561761, 1604566856, 1953433226, 2061642598, 57298384, 1544709545, 1274554124, 633364108, 66148026, 1433149184, 206851044, 1744706798, 1828017126, 777862745, 1404488248, 1649104745, 1165208113, 2014147668, 880634293, 1135908413, 345644589, 1690498176, 1973092481, 1162832078, 1088933145, 1141496910, 1106960586]
theorem invT_ok : ((List.range 36).all fun i => Nat.beq ((kM ^ (i + 2) % pM + (pM - kM)) * invT.getD (i + 1) 0 % pM) 1) = true := by kernel_rfl
theorem powT_ok : ((List.range 29).all fun i => Nat.beq (kM ^ (i + 1) % pM) (powT.getD i 0)) = true := by kernel_rfl
def leafV (o c : Nat) (I : List Nat) : Bool := Nat.ble 5000 (((o + pM - c) * I.headD 0) % pM)
def special : List (Nat × Nat) := [(999999, 1), (1000000, 2), (2147483646, 485794)]
def leafS (o c : Nat) (I : List Nat) : Bool := special.all fun w => !(Nat.beq ((c + w.1 * I.headD 0) % pM) ((o + w.2 * kM) % pM))
/-- An entry's hash from its label's on: kind 3, value 0, so many labels. -/
def begN (a n : Nat) : Nat := stepN (stepN (stepN a 3) 0) n
/-- A number's: kind 1, value 0, no label. -/
def valN (a : Nat) : Nat := [1, 0, 0].foldl stepN a
def chkShort (a : Nat) : Bool := [1, 2, 3].all fun n => walk rowsA (leafV (valN a + kM)) n (begN a n) invT
def chkSpec (a : Nat) : Bool := [1, 2, 3].all fun n => walk rowsA (leafS (valN a)) n (begN a n) powT
def chkLong (a : Nat) : Bool := [1, 2].all fun n => walk rowsA (fun c I => walk (rowsA ++ rowsB) (leafV (valN a + kM)) 2 c I) n (begN a (n + 2)) invT
theorem short_ok : ((accA ++ accB).all chkShort) = true := by kernel_rfl
theorem spec_ok : (accA.all chkSpec) = true := by kernel_rfl
theorem long_ok0 : chkLong 550671844 = true := by kernel_rfl
theorem long_ok1 : chkLong 1977775989 = true := by kernel_rfl
theorem long_ok2 : chkLong 2001510174 = true := by kernel_rfl
theorem long_ok3 : chkLong 1910501786 = true := by kernel_rfl
theorem long_ok4 : chkLong 1847501597 = true := by kernel_rfl
theorem long_ok5 : chkLong 1262182014 = true := by kernel_rfl
theorem long_ok6 : chkLong 656787649 = true := by kernel_rfl
theorem long_ok7 : chkLong 1209327151 = true := by kernel_rfl
theorem long_ok8 : chkLong 1636858375 = true := by kernel_rfl
end Go.Proofs.Ythgbcbnmdioknaa.Ref

namespace Go.Proofs.Ythgbcbnmdioknaa.Ref
open Go.RowKit Go.Proofs.YthgbcbnmdioknaaW.PrintWords Go.Proofs.YthgbcbnmdioknaaW.PrintLast

def shortP (p : List ByteArray) : Prop := p.length ≤ 3 ∧ ∀ x ∈ p, x ∈ labels
def longP (p : List ByteArray) : Prop := ∃ a x y, p = a ++ [x, y] ∧ 1 ≤ a.length ∧ shortP a ∧ x ∈ labels ++ oddLabels ∧ y ∈ labels ++ oddLabels
def In5 (v : Int) : Prop := 0 ≤ v ∧ v < 5000
def DrawnE (e : TEntry) : Prop := e.2.1 = 3 → (e.1 ∈ labels ∧ In5 e.2.2.1 ∧ (shortP e.2.2.2 ∨ longP e.2.2.2)) ∨ (e.1 ∈ labels ∧ e.2.2.1 ∈ valuesO ∧ shortP e.2.2.2) ∨ (e.1 ∈ oddLabels ∧ In5 e.2.2.1 ∧ shortP e.2.2.2)
theorem labelC_mem (c : TCur) : (labelC c).2 ∈ labels := str_mem c labels (by decide)
theorem anyL_mem (c : TCur) : (anyL c).2 ∈ labels ++ oddLabels := by
  unfold anyL
  cases (onceC c 4).2 with
  | true => exact List.mem_append.2 (.inr (str_mem _ oddLabels (by decide)))
  | false => exact List.mem_append.2 (.inl (labelC_mem _))
theorem pathGo_form : ∀ (n : Nat) (c : TCur) (o : List ByteArray), (∀ x ∈ o, x ∈ labels) → (pathGo n c o).2.length = o.length + n ∧ ∀ x ∈ (pathGo n c o).2, x ∈ labels
  | 0, c, o, h => ⟨rfl, h⟩
  | n + 1, c, o, h => by
    obtain ⟨h1, h2⟩ := pathGo_form n (labelC c).1 (o ++ [(labelC c).2]) (fun x hx => by
      rcases List.mem_append.1 hx with hx | hx
      · exact h x hx
      · rw [List.mem_singleton.1 hx]; exact labelC_mem c)
    refine ⟨?_, h2⟩
    show (pathGo n (labelC c).1 (o ++ [(labelC c).2])).2.length = _
    rw [h1]
    simp
    omega
theorem pathC_short (c : TCur) : shortP (pathC c).2 := by
  have hr := below_range c (n := 3) (by omega)
  obtain ⟨h1, h2⟩ := pathGo_form (1 + (belowC c 3).2).toNat (belowC c 3).1 [] (fun x hx => by cases hx)
  refine ⟨?_, h2⟩
  show (pathGo (1 + (belowC c 3).2).toNat (belowC c 3).1 []).2.length ≤ 3
  rw [h1]
  simp
  omega
theorem pathC_one (c : TCur) : 1 ≤ (pathC c).2.length := by
  have hr := below_range c (n := 3) (by omega)
  obtain ⟨h1, _⟩ := pathGo_form (1 + (belowC c 3).2).toNat (belowC c 3).1 [] (fun x hx => by cases hx)
  show 1 ≤ (pathGo (1 + (belowC c 3).2).toNat (belowC c 3).1 []).2.length
  rw [h1]
  simp
  omega
theorem short_nil : shortP [] := ⟨Nat.zero_le _, fun x hx => by cases hx⟩
theorem anyP_form (c : TCur) : shortP (anyP c).2 ∨ longP (anyP c).2 := by
  unfold anyP
  cases ((belowC (pathC c).1 8).2 == 0) with
  | true => exact .inr ⟨_, _, _, rfl, pathC_one c, pathC_short c, anyL_mem _, anyL_mem _⟩
  | false =>
    cases ((belowC (pathC c).1 8).2 == 1) with
    | true => exact .inl short_nil
    | false => exact .inl (pathC_short c)
theorem entryC_form (c : TCur) : (entryC c).2.1 ∈ labels ∧ In5 (entryC c).2.2.2.1 ∧ shortP (entryC c).2.2.2.2 := by
  have h1 := below_range (belowC (labelC c).1 5).1 (n := 5000) (by omega)
  have h2 := below_range (belowC (labelC c).1 5).1 (n := 50) (by omega)
  unfold entryC
  cases ((belowC (labelC c).1 5).2 == 0) with
  | true => exact ⟨labelC_mem c, h1, short_nil⟩
  | false =>
    cases ((belowC (labelC c).1 5).2 == 1) with
    | true => exact ⟨labelC_mem c, h1, pathC_short _⟩
    | false => exact ⟨labelC_mem c, ⟨h2.1, by show (belowC (belowC (labelC c).1 5).1 50).2 < 5000; omega⟩, short_nil⟩
theorem entryC_drawn (c : TCur) : DrawnE (entryC c).2 := fun _ => .inl ⟨(entryC_form c).1, (entryC_form c).2.1, .inl (entryC_form c).2.2⟩
theorem values_mem (c : TCur) : (intC c valuesO).2 ∈ valuesO := by
  have := below_range c (n := (valuesO.length : Int)) (by decide)
  exact getD_mem (by omega)
theorem anyE_drawn (c : TCur) : DrawnE (anyE c).2 := by
  obtain ⟨h1, h2, h3⟩ := entryC_form c
  unfold anyE
  cases ((belowC (entryC c).1 10).2 == 0) with
  | true => exact fun _ => .inl ⟨h1, h2, .inl h3⟩
  | false =>
    cases ((belowC (entryC c).1 10).2 == 1) with
    | true => exact fun _ => .inr (.inl ⟨h1, values_mem _, h3⟩)
    | false =>
      cases ((belowC (entryC c).1 10).2 == 2) with
      | true =>
        intro _
        rcases List.mem_append.1 (anyL_mem (belowC (entryC c).1 10).1) with h | h
        · exact .inl ⟨h, h2, .inl h3⟩
        · exact .inr (.inr ⟨h, h2, h3⟩)
      | false =>
        cases ((belowC (entryC c).1 10).2 == 3) with
        | true => exact fun _ => .inl ⟨h1, h2, anyP_form _⟩
        | false => exact fun _ => .inl ⟨h1, h2, .inl h3⟩
theorem putAt_mem {e x : TEntry} {s : Bool × List TEntry} : ∀ y ∈ (putAt e x s).2, y ∈ s.2 ∨ y = e := by
  obtain ⟨d, o⟩ := s
  unfold putAt
  intro y hy
  cases h : decide (cmpStr x.1 e.1 ≥ 0) with
  | false => rw [h] at hy; exact .inl hy
  | true =>
    rw [h] at hy
    cases d with
    | true => exact .inl hy
    | false =>
      rcases List.mem_append.1 (show y ∈ o ++ [e] from hy) with hy | hy
      · exact .inl hy
      · exact .inr (List.mem_singleton.1 hy)
theorem putStep_mem {e x : TEntry} {s : Bool × List TEntry} : ∀ y ∈ (putStep e x s).2, y ∈ s.2 ∨ y = e ∨ y = x := by
  intro y hy
  unfold putStep at hy
  cases h : (cmpStr x.1 e.1 != 0) with
  | false =>
    rw [h] at hy
    exact (putAt_mem y hy).imp id .inl
  | true =>
    rw [h] at hy
    rcases List.mem_append.1 (show y ∈ (putAt e x s).2 ++ [x] from hy) with hy | hy
    · exact (putAt_mem y hy).imp id .inl
    · exact .inr (.inr (List.mem_singleton.1 hy))
theorem putGo_mem (e : TEntry) : ∀ (l : List TEntry) (s : Bool × List TEntry), ∀ y ∈ (putGo e l s).2, y ∈ s.2 ∨ y = e ∨ y ∈ l
  | [], s, y, hy => .inl hy
  | x :: l, s, y, hy => by
    rcases putGo_mem e l (putStep e x s) y hy with h | h | h
    · rcases putStep_mem y h with h | h | h
      · exact .inl h
      · exact .inr (.inl h)
      · rw [h]; exact .inr (.inr (List.mem_cons_self ..))
    · exact .inr (.inl h)
    · exact .inr (.inr (List.mem_cons_of_mem _ h))
theorem putE_mem (l : List TEntry) (e : TEntry) : ∀ y ∈ (putE l e).1, y ∈ l ∨ y = e := by
  intro y hy
  unfold putE putFin at hy
  cases h1 : areEntries l with
  | false => rw [h1] at hy; exact .inl hy
  | true =>
    rw [h1] at hy
    cases h2 : areEntries (putOut e (putGo e l (false, []))) with
    | false => rw [h2] at hy; exact .inl hy
    | true =>
      rw [h2] at hy
      have hy : y ∈ putOut e (putGo e l (false, [])) := hy
      have key : ∀ y ∈ (putGo e l (false, [])).2, y ∈ l ∨ y = e := fun y hy => by
        rcases putGo_mem e l (false, []) y hy with h | h | h
        · cases h
        · exact .inr h
        · exact .inl h
      unfold putOut at hy
      cases h3 : (!(putGo e l (false, [])).1) with
      | false => rw [h3] at hy; exact key y hy
      | true =>
        rw [h3] at hy
        rcases List.mem_append.1 (show y ∈ (putGo e l (false, [])).2 ++ [e] from hy) with hy | hy
        · exact key y hy
        · exact .inr (List.mem_singleton.1 hy)
theorem listGo_drawn : ∀ (n : Nat) (c : TCur) (o : List TEntry), (∀ x ∈ o, DrawnE x) → ∀ x ∈ (listGo n c o).2, DrawnE x
  | 0, _, _, h => h
  | n + 1, c, o, h => listGo_drawn n (entryC c).1 (putE o (entryC c).2).1 (fun x hx => by
    rcases putE_mem _ _ x hx with hx | hx
    · exact h x hx
    · rw [hx]; exact entryC_drawn c)
theorem manyGo_drawn : ∀ (r : List ByteArray) (o : List TEntry), (∀ x ∈ o, DrawnE x) → ∀ x ∈ manyGo r o, DrawnE x
  | [], _, h => h
  | s :: r, o, h => manyGo_drawn r (putE o (s, (1, (1, [])))).1 (fun x hx => by
    rcases putE_mem _ _ x hx with hx | hx
    · exact h x hx
    · rw [hx]
      intro h3
      have h3 : (1 : Int) = 3 := h3
      omega)
theorem anyEsP_drawn {r : TCur × List TEntry} (h : ∀ x ∈ r.2, DrawnE x) : ∀ x ∈ (anyEsP r).2, DrawnE x := by
  unfold anyEsP
  cases ((belowC r.1 10).2 == 0) with
  | true =>
    intro x hx
    rcases List.mem_append.1 (show x ∈ r.2 ++ [(anyE (belowC r.1 10).1).2] from hx) with hx | hx
    · exact h x hx
    · rw [List.mem_singleton.1 hx]; exact anyE_drawn _
  | false =>
    cases ((belowC r.1 10).2 == 1) with
    | true =>
      intro x hx
      simp only [cond_true, cond_false] at hx
      exact manyGo_drawn oneLabels r.2 h x hx
    | false => exact h
theorem anyEs_drawn (c : TCur) : ∀ x ∈ (anyEs c).2, DrawnE x := anyEsP_drawn (listGo_drawn _ _ _ (fun x hx => by cases hx))
theorem proveDp_fst (r : TCur × List TEntry) : (proveDp r).1 = r.2 := by
  unfold proveDp
  cases decide ((r.2.length : Int) > 0) with
  | false => rfl
  | true => cases (onceC r.1 3).2 <;> rfl
theorem proveD_drawn (l : List Int) : ∀ x ∈ (proveD l).1, DrawnE x := by
  unfold proveD
  rw [proveDp_fst]
  exact anyEs_drawn _
structure PathR (p : List ByteArray) (xs : List Row) (ns : List Nat) : Prop where
  ints : p.flatMap labelInts = castL ns
  small : ∀ v ∈ ns, v < pM
  fold : ∀ c, c < pM → ns.foldl stepN c = xs.foldl goRow c
  len : ns.length = wide xs
  cnt : xs.length = p.length
theorem goRow_lt (c : Nat) (x : Row) : goRow c x < pM := Nat.mod_lt _ (by decide)
theorem IsRow.go {s : ByteArray} {ns : List Nat} {r : Row} {a : Nat} (h : IsRow s ns r a) (c : Nat) (hc : c < pM) : ns.foldl stepN c = goRow c r := by
  rw [fold_aff ns c hc, h.aff]
  unfold goRow
  dsimp only
  rw [mac2]
theorem castL_app (a b : List Nat) : castL (a ++ b) = castL a ++ castL b := by unfold castL; rw [List.map_append]
theorem PathR.nil : PathR [] [] [] := ⟨rfl, fun v hv => (by cases hv), fun c hc => rfl, rfl, rfl⟩
theorem PathR.cons {s : ByteArray} {p : List ByteArray} {xs : List Row} {ns ms : List Nat} {r : Row} {a : Nat} (h : IsRow s ns r a) (hp : PathR p xs ms) : PathR (s :: p) (r :: xs) (ns ++ ms) := by
  refine ⟨?_, fun v hv => ?_, fun c hc => ?_, ?_, ?_⟩
  · rw [List.flatMap_cons, hp.ints, h.ints, castL_app]
  · rcases List.mem_append.1 hv with hv | hv
    · exact h.small v hv
    · exact hp.small v hv
  · rw [List.foldl_append, h.go c hc, hp.fold _ (goRow_lt _ _)]
    rfl
  · rw [List.length_append, hp.len]
    have : r.2.2 = ns.length := by rw [h.aff]
    show _ = r.2.2 + wide xs
    rw [this]
  · rw [List.length_cons, List.length_cons, hp.cnt]
theorem short_rows : ∀ {p : List ByteArray}, (∀ x ∈ p, x ∈ labels) → ∃ xs ns, PathR p xs ns ∧ ∀ x ∈ xs, x ∈ rowsA
  | [], _ => ⟨[], [], PathR.nil, fun x hx => by cases hx⟩
  | s :: p, h => by
    obtain ⟨xs, ms, h1, h2⟩ := short_rows (p := p) (fun x hx => h x (List.mem_cons_of_mem _ hx))
    obtain ⟨ns, r, a, h3, h4, _⟩ := labels_row (h s (List.mem_cons_self ..))
    refine ⟨_, _, PathR.cons h3 h1, fun x hx => ?_⟩
    rcases List.mem_cons.1 hx with rfl | hx
    · exact h4
    · exact h2 x hx
theorem any_row {s : ByteArray} (h : s ∈ labels ++ oddLabels) (hl : isLabel s = true) : ∃ ns r a, IsRow s ns r a ∧ r ∈ rowsA ++ rowsB := by
  rcases List.mem_append.1 h with h | h
  · obtain ⟨ns, r, a, h1, h2, _⟩ := labels_row h
    exact ⟨ns, r, a, h1, List.mem_append.2 (.inl h2)⟩
  · obtain ⟨ns, r, a, h1, h2, _⟩ := good_row (odd_good h hl)
    exact ⟨ns, r, a, h1, List.mem_append.2 (.inr h2)⟩
theorem PathR.app {p q : List ByteArray} {xs ys : List Row} {ns ms : List Nat} (h1 : PathR p xs ns) (h2 : PathR q ys ms) : PathR (p ++ q) (xs ++ ys) (ns ++ ms) := by
  refine ⟨by rw [List.flatMap_append, h1.ints, h2.ints, castL_app], fun v hv => ?_, fun c hc => ?_, ?_, by rw [List.length_append, List.length_append, h1.cnt, h2.cnt]⟩
  · rcases List.mem_append.1 hv with hv | hv
    · exact h1.small v hv
    · exact h2.small v hv
  · have h3 : ns.foldl stepN c < pM := by
      cases ns with
      | nil => exact hc
      | cons v l => exact fold_lt l (stepN_lt c v)
    rw [List.foldl_append, List.foldl_append, h2.fold _ h3, h1.fold c hc]
  · rw [List.length_append, h1.len, h2.len]
    exact (wsum_app _ _ _).symm
  where fold_lt : ∀ (l : List Nat) {c : Nat}, c < pM → l.foldl stepN c < pM
  | [], _, h => h
  | v :: l, c, _ => fold_lt l (stepN_lt c v)
theorem leaf_nat {s : ByteArray} {ns ms : List Nat} {r : Row} {a kd v : Nat} {p : List ByteArray} (hs : IsRow s ns r a) (hk : kd < pM) (hv : v < pM) (hp : p.length < pM) (h1 : p.flatMap labelInts = castL ms) (h2 : ∀ v ∈ ms, v < pM) :
    leafOf (s, ((kd : Int), ((v : Int), p))) = (((v :: p.length :: ms).foldl stepN (stepN a kd) : Nat) : Int) := by
  have e : (227 : Int) :: entryInts (s, ((kd : Int), ((v : Int), p))) = castL ((227 :: ns) ++ ([kd, v, p.length] ++ ms)) := by
    rw [castL_app, castL_app]
    unfold entryInts
    dsimp only
    rw [hs.ints, h1]
    show (227 : Int) :: ((castL ns ++ [(kd : Int), (v : Int), (p.length : Int)]) ++ castL ms) = ((227 : Int) :: castL ns) ++ ([(kd : Int), (v : Int), (p.length : Int)] ++ castL ms)
    rw [List.append_assoc]
    rfl
  have hsm : ∀ u ∈ (227 :: ns) ++ ([kd, v, p.length] ++ ms), u < 2147483647 := by
    intro u hu
    rcases List.mem_append.1 hu with hu | hu
    · rcases List.mem_cons.1 hu with rfl | hu
      · decide
      · exact hs.small u hu
    · rcases List.mem_append.1 hu with hu | hu
      · simp only [List.mem_cons, List.not_mem_nil, or_false] at hu
        rcases hu with rfl | rfl | rfl
        · exact hk
        · exact hv
        · exact hp
      · exact h2 u hu
  unfold leafOf hash
  rw [e]
  have := fold_nat ((227 :: ns) ++ ([kd, v, p.length] ++ ms)) (a := 11) (by decide) hsm
  rw [show ((11 : Nat) : Int) = 11 from rfl] at this
  rw [this, List.foldl_append, ← hs.acc]
  simp only [List.cons_append, List.nil_append, List.foldl_cons]
theorem begN_lt (a n : Nat) : begN a n < pM := stepN_lt _ _
theorem leaf_val {s : ByteArray} {ns : List Nat} {r : Row} {a v : Nat} (hs : IsRow s ns r a) (hv : v < pM) : leafOf (s, ((1 : Int), ((v : Int), []))) = (((valN a + v * kM) % pM : Nat) : Int) := by
  have h := leaf_nat (p := []) (ms := []) hs (kd := 1) (by decide) hv (by decide) rfl (fun v hv => by cases hv)
  have h2 := fold_var [0] (stepN a 1) v
  have e : (v :: List.length ([] : List ByteArray) :: ([] : List Nat)).foldl stepN (stepN a 1) = (valN a + v * kM) % pM := by
    have e1 : kM ^ [0].length = kM := Nat.pow_one _
    rw [e1] at h2
    unfold valN
    simp only [List.foldl_cons, List.foldl_nil, List.length_nil] at h2 ⊢
    exact h2
  rw [e] at h
  exact h
theorem leaf_moved {s : ByteArray} {ns ms : List Nat} {r : Row} {a v : Nat} {p : List ByteArray} {xs : List Row} (hs : IsRow s ns r a) (hv : v < pM) (hp : p.length < pM) (h : PathR p xs ms) :
    leafOf (s, ((3 : Int), ((v : Int), p))) = (((xs.foldl goRow (begN a p.length) + v * kM ^ (wide xs + 1)) % pM : Nat) : Int) := by
  have h1 := leaf_nat hs (kd := 3) (by decide) hv hp h.ints h.small
  have h2 := fold_var (p.length :: ms) (stepN a 3) v
  have e : (0 :: p.length :: ms).foldl stepN (stepN a 3) = xs.foldl goRow (begN a p.length) := by
    rw [List.foldl_cons, List.foldl_cons]
    exact h.fold (begN a p.length) (begN_lt _ _)
  rw [e, List.length_cons, h.len] at h2
  rw [h2] at h1
  exact h1
theorem ring1 (C o v A k p j q i B : Int) (h1 : C + v * A - (o + v * k) = p * j) (h2 : (B + (p - k)) * i = 1 + p * q) (h3 : A = B + p * ((A - B) / p)) : (o + p - C) * i = v + p * (v * q + v * ((A - B) / p - 1) * i + (1 - j) * i) := by
  generalize (A - B) / p = d at *
  have h4 : o = C + v * A - v * k - p * j := by omega
  subst h4
  subst h3
  have e : ((C + v * (B + p * d) - v * k - p * j) + p - C) = v * (B + (p - k)) + p * (v * (d - 1) + (1 - j)) := by grind
  rw [e, Int.add_mul, Int.mul_assoc, h2]
  grind
theorem solve {C o v A inv : Nat} (h : (C + v * A) % pM = (o + v * kM) % pM) (hi : ((A % pM + (pM - kM)) * inv) % pM = 1) (hC : C < pM) (hv : v < 5000) : ((o + pM - C) * inv) % pM = v := by
  have h1 : (C : Int) + (v : Int) * A - ((o : Int) + v * kM) = pM * ((((C + v * A) / pM : Nat) : Int) - (((o + v * kM) / pM : Nat) : Int)) := by
    have e : ((v * A : Nat) : Int) = (v : Int) * (A : Int) := Int.natCast_mul _ _
    rw [← e]
    generalize v * A = X at *
    dsimp only [pM, kM] at *
    omega
  have h2 : (((A % pM : Nat) : Int) + ((pM : Int) - kM)) * inv = 1 + pM * ((((A % pM + (pM - kM)) * inv) / pM : Nat) : Int) := by
    have e : (((A % pM + (pM - kM)) * inv : Nat) : Int) = (((A % pM : Nat) : Int) + ((pM : Int) - kM)) * inv := by
      rw [Int.natCast_mul, Int.natCast_add]
      rfl
    rw [← e]
    generalize (A % pM + (pM - kM)) * inv = X at *
    dsimp only [pM, kM] at *
    omega
  have h3 : (A : Int) = ((A % pM : Nat) : Int) + pM * (((A : Int) - ((A % pM : Nat) : Int)) / pM) := by
    dsimp only [pM, kM] at *
    omega
  have h4 := ring1 _ _ _ _ _ _ _ _ _ _ h1 h2 h3
  have e : (((o + pM - C) * inv : Nat) : Int) = ((o : Int) + pM - C) * inv := by
    rw [Int.natCast_mul]
    have e2 : ((o + pM - C : Nat) : Int) = (o : Int) + pM - C := by
      dsimp only [pM, kM] at *
      omega
    rw [e2]
  rw [← e] at h4
  generalize (o + pM - C) * inv = Y at *
  generalize (v : Int) * _ + _ + _ = Z at h4
  dsimp only [pM, kM] at *
  omega
theorem head_drop (I : List Nat) (m : Nat) : (I.drop m).headD 0 = I.getD m 0 := by
  rw [List.getD_eq_getElem?_getD, List.headD_eq_head?_getD, List.head?_drop]
theorem no_leafV {a v : Nat} {xs : List Row} {C : Nat} (hC : C < pM) (hw : 1 ≤ wide xs ∧ wide xs ≤ 36) (hv : v < 5000) (hl : leafV (valN a + kM) C (invT.drop (wide xs)) = true) : (C + v * kM ^ (wide xs + 1)) % pM ≠ (valN a + (v + 1) * kM) % pM := by
  intro h
  unfold leafV at hl
  have hl := Nat.le_of_ble_eq_true hl
  rw [head_drop] at hl
  have hi := List.all_eq_true.1 invT_ok (wide xs - 1) (List.mem_range.2 (by omega))
  have hi := Nat.eq_of_beq_eq_true hi
  rw [show wide xs - 1 + 2 = wide xs + 1 by omega, show wide xs - 1 + 1 = wide xs by omega] at hi
  have h' : (C + v * kM ^ (wide xs + 1)) % pM = (valN a + kM + v * kM) % pM := by
    rw [h]
    have e : valN a + (v + 1) * kM = valN a + kM + v * kM := by
      rw [Nat.add_mul]
      omega
    rw [e]
  have := solve h' hi hC hv
  omega
theorem no_leafS {a w w' : Nat} {xs : List Row} {C : Nat} (hw : wide xs ≤ 28) (hm : (w, w') ∈ special) (hl : leafS (valN a) C (powT.drop (wide xs)) = true) : (C + w * kM ^ (wide xs + 1)) % pM ≠ (valN a + w' * kM) % pM := by
  intro h
  unfold leafS at hl
  have hl := List.all_eq_true.1 hl (w, w') hm
  dsimp only at hl
  rw [head_drop] at hl
  have hi := List.all_eq_true.1 powT_ok (wide xs) (List.mem_range.2 (by omega))
  have hi := Nat.eq_of_beq_eq_true hi
  rw [← hi] at hl
  have e : (C + w * (kM ^ (wide xs + 1) % pM)) % pM = (C + w * kM ^ (wide xs + 1)) % pM := by
    rw [Nat.add_comm C, mac2, Nat.add_comm]
  rw [e, h, Nat.beq_refl] at hl
  cases hl
theorem wide_le {T : List Row} {k m : Nat} (hT : T.all (fun x => Nat.ble k x.2.2 && Nat.ble x.2.2 m) = true) : ∀ {xs : List Row}, (∀ x ∈ xs, x ∈ T) → k * xs.length ≤ wide xs ∧ wide xs ≤ m * xs.length
  | [], _ => ⟨Nat.le_refl _, Nat.zero_le _⟩
  | x :: xs, h => by
    have h1 := wide_le hT (xs := xs) (fun y hy => h y (List.mem_cons_of_mem _ hy))
    have h2 := (Bool.and_eq_true _ _).mp (List.all_eq_true.1 hT x (h x (List.mem_cons_self ..)))
    have h3 := Nat.le_of_ble_eq_true h2.1
    have h4 := Nat.le_of_ble_eq_true h2.2
    show k * (xs.length + 1) ≤ x.2.2 + wide xs ∧ x.2.2 + wide xs ≤ m * (xs.length + 1)
    rw [Nat.mul_add, Nat.mul_add, Nat.mul_one, Nat.mul_one]
    omega
theorem rowsA_wide : rowsA.all (fun x => Nat.ble 2 x.2.2 && Nat.ble x.2.2 6) = true := by decide
theorem rowsAB_wide : (rowsA ++ rowsB).all (fun x => Nat.ble 2 x.2.2 && Nat.ble x.2.2 9) = true := by decide
theorem long_all {a : Nat} (h : a ∈ accA) : chkLong a = true := by
  unfold accA at h
  simp only [List.mem_cons, List.not_mem_nil, or_false] at h
  rcases h with rfl | rfl | rfl | rfl | rfl | rfl | rfl | rfl | rfl
  · exact long_ok0
  · exact long_ok1
  · exact long_ok2
  · exact long_ok3
  · exact long_ok4
  · exact long_ok5
  · exact long_ok6
  · exact long_ok7
  · exact long_ok8
theorem walkC_lt (xs : List Row) (a n : Nat) : xs.foldl goRow (begN a n) < pM := by
  have : ∀ (xs : List Row) {c : Nat}, c < pM → xs.foldl goRow c < pM := by
    intro xs
    induction xs with
    | nil => exact fun h => h
    | cons x xs ih => exact fun _ => ih (goRow_lt _ _)
  exact this xs (begN_lt a n)
theorem short_solve {a v : Nat} {p : List ByteArray} {xs : List Row} {ns : List Nat} (ha : a ∈ accA ++ accB) (hp : shortP p) (h1 : 1 ≤ p.length) (hr : PathR p xs ns) (hx : ∀ x ∈ xs, x ∈ rowsA) (hv : v < 5000) : (xs.foldl goRow (begN a p.length) + v * kM ^ (wide xs + 1)) % pM ≠ (valN a + (v + 1) * kM) % pM := by
  have hc := List.all_eq_true.1 short_ok a ha
  unfold chkShort at hc
  have hl := hp.1
  have hc := List.all_eq_true.1 hc p.length (by
    have : p.length = 1 ∨ p.length = 2 ∨ p.length = 3 := by omega
    rcases this with h | h | h <;> rw [h] <;> simp)
  rw [← hr.cnt] at hc
  have hw := wide_le rowsA_wide hx
  have hcn := hr.cnt
  have := walk_at xs _ _ hc hx
  rw [hr.cnt] at this
  exact no_leafV (walkC_lt _ _ _) (by omega) hv this
theorem spec_solve {a w w' : Nat} {p : List ByteArray} {xs : List Row} {ns : List Nat} (ha : a ∈ accA) (hp : shortP p) (h1 : 1 ≤ p.length) (hr : PathR p xs ns) (hx : ∀ x ∈ xs, x ∈ rowsA) (hm : (w, w') ∈ special) : (xs.foldl goRow (begN a p.length) + w * kM ^ (wide xs + 1)) % pM ≠ (valN a + w' * kM) % pM := by
  have hc := List.all_eq_true.1 spec_ok a ha
  unfold chkSpec at hc
  have hl := hp.1
  have hc := List.all_eq_true.1 hc p.length (by
    have : p.length = 1 ∨ p.length = 2 ∨ p.length = 3 := by omega
    rcases this with h | h | h <;> rw [h] <;> simp)
  rw [← hr.cnt] at hc
  have hw := wide_le rowsA_wide hx
  have hcn := hr.cnt
  have := walk_at xs _ _ hc hx
  rw [hr.cnt] at this
  exact no_leafS (by omega) hm this
theorem long_solve {a v : Nat} {p q : List ByteArray} {xs ys : List Row} {ns ms : List Nat} (ha : a ∈ accA) (h1 : 1 ≤ p.length) (h2 : p.length ≤ 2) (hq : q.length = 2) (hr : PathR p xs ns) (hr2 : PathR q ys ms) (hx : ∀ x ∈ xs, x ∈ rowsA) (hy : ∀ x ∈ ys, x ∈ rowsA ++ rowsB) (hv : v < 5000) :
    ((xs ++ ys).foldl goRow (begN a (p ++ q).length) + v * kM ^ (wide (xs ++ ys) + 1)) % pM ≠ (valN a + (v + 1) * kM) % pM := by
  have hc := long_all ha
  unfold chkLong at hc
  have hc := List.all_eq_true.1 hc p.length (by
    have : p.length = 1 ∨ p.length = 2 := by omega
    rcases this with h | h <;> rw [h] <;> simp)
  rw [← hr.cnt] at hc
  have hw := wide_le rowsA_wide hx
  have hw2 := wide_le rowsAB_wide hy
  have hcn := hr.cnt
  have hcn2 := hr2.cnt
  have h3 := walk_at xs _ _ hc hx
  have h3 : walk (rowsA ++ rowsB) (leafV (valN a + kM)) 2 (xs.foldl goRow (begN a (xs.length + 2))) (invT.drop (wide xs)) = true := h3
  rw [← hq, ← hr2.cnt] at h3
  have h4 := walk_at ys _ _ h3 hy
  have hwd : wide (xs ++ ys) = wide xs + wide ys := wsum_app _ _ _
  rw [List.drop_drop, ← hwd, ← List.foldl_append, hr2.cnt, hcn, ← List.length_append] at h4
  exact no_leafV (walkC_lt _ _ _) (by omega) hv h4
theorem tmod_nat (v : Nat) (h : v < 2147483648) : IntKind.wrap .i64 (Int.tmod (v : Int) 999999 + 1) = ((v % 999999 + 1 : Nat) : Int) := by
  have e : Int.tmod (v : Int) 999999 = ((v % 999999 : Nat) : Int) := by
    rw [Int.tmod_eq_emod_of_nonneg (by omega)]
    omega
  rw [e, wrap_id (by omega) (by omega)]
  omega
theorem len_zero {p : List ByteArray} (h : ((p.length : Int) == 0) = true) : p = [] := by
  have := eq_of_beq h
  exact List.length_eq_zero_iff.1 (by omega)
theorem acc_step (a x y : Int) (v v' : Int) (ha : InM a) (hx : 0 ≤ x ∧ x ≤ 3) (hy : 0 ≤ y ∧ y ≤ 3) (hv : InM v) (hv' : InM v') (e : hashStep (hashStep a x) v = hashStep (hashStep a y) v') : ∃ k : Int, (x - y) * 1000003 + (v - v') = 2147483647 * k := by
  have h1 := step_range x ha
  have h2 := step_range y ha
  rw [step_eq v h1, step_eq v' h2, step_eq x ha, step_eq y ha, modM_id hv, modM_id hv', modM_id (v := x) ⟨by omega, by omega⟩, modM_id (v := y) ⟨by omega, by omega⟩] at e
  unfold InM at ha hv hv'
  refine ⟨(x - y) * 1000003 / 2147483647 + ((x - y) * 1000003 + (v - v')) / 2147483647 - (x - y) * 1000003 / 2147483647, ?_⟩
  omega
end Go.Proofs.Ythgbcbnmdioknaa.Ref

namespace Go.Proofs.Ythgbcbnmdioknaa.Ref
open Go.RowKit Go.Proofs.YthgbcbnmdioknaaW.PrintWords Go.Proofs.YthgbcbnmdioknaaW.PrintLast

/-- The number that stands beside an entry's. -/
def besideV (v : Int) : Int := IntKind.wrap .i64 (Int.tmod v 999999 + 1)
theorem leaf_kind (s : ByteArray) (k v : Int) : leafOf (s, (k, (v, []))) = hashStep (hashStep (hashStep ((227 :: labelInts s).foldl hashStep 11) k) v) 0 := by
  unfold leafOf hash entryInts
  dsimp only
  rw [List.flatMap_nil, List.append_nil, ← List.cons_append, List.foldl_append]
  rfl
theorem other_leaf {e : TEntry} (hd : DrawnE e) (he : isEntry e = true) (hl : leafOf (e.1, (1, (besideV e.2.2.1, []))) = leafOf e) : eqEntry (e.1, (1, (besideV e.2.2.1, []))) e = true := by
  obtain ⟨s, kd, v, p⟩ := e
  unfold isEntry at he
  dsimp only at he hl ⊢
  obtain ⟨hs, he⟩ := (Bool.and_eq_true _ _).mp he
  have hacc : InM ((227 :: labelInts s).foldl hashStep 11) := fold_range _ in11
  rcases Bool.or_eq_true_iff.mp he with h1 | h23
  · obtain ⟨hk, h1⟩ := (Bool.and_eq_true _ _).mp h1
    obtain ⟨hv, hp⟩ := (Bool.and_eq_true _ _).mp h1
    have hk := eq_of_beq hk
    have hp := len_zero hp
    subst hk
    subst hp
    unfold inR at hv
    simp only [Bool.and_eq_true, decide_eq_true_eq] at hv
    obtain ⟨n, rfl⟩ : ∃ n : Nat, v = (n : Int) := ⟨v.toNat, by omega⟩
    have hb : besideV (n : Int) = ((n % 999999 + 1 : Nat) : Int) := tmod_nat n (by omega)
    rw [hb] at hl ⊢
    rw [leaf_kind, leaf_kind] at hl
    have h2 := step_inj_l (step_range _ (step_range _ hacc)) (step_range _ (step_range _ hacc)) hl
    have h3 := step_inj_r (step_range _ hacc) h2
    rw [modM_id ⟨by omega, by omega⟩, modM_id ⟨by omega, by omega⟩] at h3
    rw [h3]
    exact eqEntry_refl _
  · rcases Bool.or_eq_true_iff.mp h23 with h2 | h3
    · exfalso
      obtain ⟨hk, h1⟩ := (Bool.and_eq_true _ _).mp h2
      obtain ⟨hv, hp⟩ := (Bool.and_eq_true _ _).mp h1
      have hk := eq_of_beq hk
      have hp := len_zero hp
      subst hk
      subst hp
      unfold isDigest inR at hv
      simp only [Bool.and_eq_true, decide_eq_true_eq] at hv
      obtain ⟨n, rfl⟩ : ∃ n : Nat, v = (n : Int) := ⟨v.toNat, by omega⟩
      have hb : besideV (n : Int) = ((n % 999999 + 1 : Nat) : Int) := tmod_nat n (by omega)
      rw [hb, leaf_kind, leaf_kind] at hl
      have h2 := step_inj_l (step_range _ (step_range _ hacc)) (step_range _ (step_range _ hacc)) hl
      obtain ⟨k, hk⟩ := acc_step _ 2 1 _ _ hacc ⟨by omega, by omega⟩ ⟨by omega, by omega⟩ ⟨by omega, by omega⟩ ⟨by omega, by omega⟩ h2.symm
      omega
    · exfalso
      obtain ⟨hk, h1⟩ := (Bool.and_eq_true _ _).mp h3
      obtain ⟨hv, hp⟩ := (Bool.and_eq_true _ _).mp h1
      have hk := eq_of_beq hk
      subst hk
      unfold isDigest inR at hv
      simp only [Bool.and_eq_true, decide_eq_true_eq] at hv
      unfold isPath inR at hp
      simp only [Bool.and_eq_true, decide_eq_true_eq] at hp
      obtain ⟨⟨hp1, hp4⟩, hpl⟩ := hp
      obtain ⟨n, rfl⟩ : ∃ n : Nat, v = (n : Int) := ⟨v.toNat, by omega⟩
      have hn : n < pM := by dsimp only [pM]; omega
      have hpm : p.length < pM := by dsimp only [pM]; omega
      have hb : besideV (n : Int) = ((n % 999999 + 1 : Nat) : Int) := tmod_nat n (by omega)
      rw [hb] at hl
      have hb2 : n % 999999 + 1 < pM := by dsimp only [pM]; omega
      have hp1' : 1 ≤ p.length := by omega
      have five : In5 (n : Int) → n < 5000 ∧ n % 999999 + 1 = n + 1 := fun h => by unfold In5 at h; omega
      rcases hd rfl with ⟨h1, h2, h3⟩ | ⟨h1, h2, h3⟩ | ⟨h1, h2, h3⟩
      · obtain ⟨n5, e5⟩ := five h2
        obtain ⟨ns, r, a, hr, _, ha⟩ := labels_row h1
        rcases h3 with h3 | ⟨q, x, y, rfl, hq1, hq, hx, hy⟩
        · obtain ⟨xs, ms, hp, hxs⟩ := short_rows h3.2
          rw [leaf_val hr hb2, leaf_moved hr hn hpm hp, e5] at hl
          exact short_solve (List.mem_append.2 (.inl ha)) h3 hp1' hp hxs n5 (Int.ofNat_inj.1 hl.symm)
        · have hxy := List.all_eq_true.1 hpl
          obtain ⟨xs, ms, hp, hxs⟩ := short_rows hq.2
          obtain ⟨nx, rx, ax, hrx, hrxm⟩ := any_row hx (hxy x (by simp))
          obtain ⟨ny, ry, ay, hry, hrym⟩ := any_row hy (hxy y (by simp))
          have h4 := PathR.cons hrx (PathR.cons hry PathR.nil)
          have h5 := hp.app h4
          rw [leaf_val hr hb2, leaf_moved hr hn hpm h5, e5] at hl
          refine long_solve (p := q) (q := [x, y]) ha hq1 (by simp at hp4; omega) rfl hp h4 hxs (fun z hz => ?_) n5 (Int.ofNat_inj.1 hl.symm)
          simp only [List.mem_cons, List.not_mem_nil, or_false] at hz
          rcases hz with rfl | rfl
          · exact hrxm
          · exact hrym
      · obtain ⟨ns, r, a, hr, _, ha⟩ := labels_row h1
        obtain ⟨xs, ms, hp, hxs⟩ := short_rows h3.2
        rw [leaf_val hr hb2, leaf_moved hr hn hpm hp] at hl
        have hm : (n, n % 999999 + 1) ∈ special := by
          unfold valuesO at h2
          simp only [List.mem_cons, List.not_mem_nil, or_false] at h2
          have : n = 999999 ∨ n = 1000000 ∨ n = 2147483646 := by omega
          rcases this with rfl | rfl | rfl <;> simp [special]
        exact spec_solve ha h3 hp1' hp hxs hm (Int.ofNat_inj.1 hl.symm)
      · obtain ⟨n5, e5⟩ := five h2
        obtain ⟨ns, r, a, hr, _, ha⟩ := good_row (odd_good h1 hs)
        obtain ⟨xs, ms, hp, hxs⟩ := short_rows h3.2
        rw [leaf_val hr hb2, leaf_moved hr hn hpm hp, e5] at hl
        exact short_solve (List.mem_append.2 (.inr ha)) h3 hp1' hp hxs n5 (Int.ofNat_inj.1 hl.symm)
def cntN : Nat → Nat → Nat → Nat
  | 0, _, _ => 0
  | f + 1, i, n => cond (decide (1 < n)) (cond (decide (sib i < n)) 1 0 + cntN f (i / 2) ((n + 1) / 2)) 0
theorem tfN_cnt : ∀ (f : Nat) {leaf t : Int} {i n : Nat} {path : List Int}, tfN f leaf i n path = some t → path.length = cntN f i n
  | 0, leaf, t, i, n, path, h => by
    unfold tfN at h
    cases hp : (path.length == 0) with
    | true => exact eq_of_beq hp
    | false => rw [hp] at h; cases h
  | f + 1, leaf, t, i, n, path, h => by
    unfold tfN at h
    unfold cntN
    cases h1 : decide (1 < n) with
    | false =>
      rw [h1] at h
      cases hp : (path.length == 0) with
      | true => exact eq_of_beq hp
      | false => rw [hp] at h; cases h
    | true =>
      rw [h1] at h
      cases h2 : decide (sib i < n) with
      | false =>
        rw [h2] at h
        have := tfN_cnt f h
        simp only [cond_true, cond_false, Nat.zero_add]
        exact this
      | true =>
        rw [h2] at h
        cases path with
        | nil => cases h
        | cons p ps =>
          have := tfN_cnt f h
          simp only [cond_true, List.length_cons]
          omega
theorem tfN_grow : ∀ (f : Nat) {leaf t t' : Int} {i n : Nat} {path : List Int}, i < n → n ≤ f → tfN f leaf i n path = some t → tfN f leaf i (n + 1) path = some t' → t = t'
  | 0, leaf, t, t', i, n, path, hi, hf, _, _ => by omega
  | f + 1, leaf, t, t', i, n, path, hi, hf, h, h' => by
    unfold tfN at h h'
    rw [decide_eq_true (show 1 < n + 1 by omega)] at h'
    by_cases h1 : 1 < n
    · rw [decide_eq_true h1] at h
      simp only [cond_true] at h h'
      by_cases h2 : sib i < n
      · rw [decide_eq_true h2] at h
        rw [decide_eq_true (show sib i < n + 1 by omega)] at h'
        simp only [cond_true] at h h'
        cases path with
        | nil => cases h
        | cons p ps =>
          dsimp only at h h'
          rcases Nat.mod_two_eq_zero_or_one n with hn | hn
          · rw [show (n + 1 + 1) / 2 = (n + 1) / 2 + 1 by omega] at h'
            exact tfN_grow f (by omega) (by omega) h h'
          · rw [show (n + 1 + 1) / 2 = (n + 1) / 2 by omega, h] at h'
            injection h'
      · rw [decide_eq_false h2] at h
        have hs : sib i = n ∧ n % 2 = 1 := by
          unfold sib at h2 ⊢
          split at h2 <;> rename_i hm
          · rw [if_pos hm]; omega
          · omega
        rw [decide_eq_true (show sib i < n + 1 by omega)] at h'
        simp only [cond_true, cond_false] at h h'
        cases path with
        | nil => cases h'
        | cons p ps =>
          dsimp only at h'
          rw [show (n + 1 + 1) / 2 = (n + 1) / 2 by omega] at h'
          have a1 := tfN_cnt f h
          have a2 := tfN_cnt f h'
          rw [List.length_cons] at a1
          omega
    · have hn : n = 1 := by omega
      subst hn
      have hi0 : i = 0 := by omega
      subst hi0
      rw [decide_eq_false h1] at h
      simp only [cond_false] at h
      cases hp : (path.length == 0) with
      | false => rw [hp] at h; cases h
      | true =>
        have : path = [] := List.length_eq_zero_iff.1 (eq_of_beq hp)
        subst this
        have e : decide (sib 0 < 1 + 1) = true := by decide
        rw [e] at h'
        cases h'
structure Shown (l : List TEntry) (s : ByteArray) (j : Nat) : Prop where
  ord : InOrder l
  lt : j < l.length
  lab : (at' l j).1 = s
  find : findEntry l s = (j : Int)
  proof : proveEntry l s = (((j : Int), pathFor (l.map leafOf) (j : Int)), true)
theorem idxFrom_spec {α : Type} {p : α → Bool} (d : α) : ∀ (l : List α) (k : Nat), ¬ (idxFrom p k l < 0) → ∃ j, j < l.length ∧ idxFrom p k l = ((k + j : Nat) : Int) ∧ p (l.getD j d) = true
  | [], k, h => by
    exfalso
    apply h
    show (-1 : Int) < 0
    decide
  | x :: l, k, h => by
    cases hx : p x with
    | true => exact ⟨0, by simp, by show cond (p x) (k : Int) _ = _; rw [hx]; rfl, hx⟩
    | false =>
      have e : idxFrom p k (x :: l) = idxFrom p (k + 1) l := by show cond (p x) (k : Int) _ = _; rw [hx]; rfl
      rw [e] at h ⊢
      obtain ⟨j, h1, h2, h3⟩ := idxFrom_spec d l (k + 1) h
      exact ⟨j + 1, by simpa using h1, by rw [h2]; omega, h3⟩
theorem shown {l : List TEntry} {s : ByteArray} (h : (proveEntry l s).2 = true) (ha : areEntries l = true) : ∃ j, Shown l s j := by
  unfold proveEntry at h
  cases hf : decide (findEntry l s < 0) with
  | true => rw [hf] at h; cases h
  | false =>
    have hf : ¬ idxFrom (fun e => eqStr e.1 s) 0 l < 0 := of_decide_eq_false hf
    obtain ⟨j, h1, h2, h3⟩ := idxFrom_spec (p := fun e => eqStr e.1 s) dE l 0 hf
    rw [Nat.zero_add] at h2
    have h2 : findEntry l s = (j : Int) := h2
    refine ⟨j, inOrder ha, h1, eqStr_iff.1 h3, h2, ?_⟩
    unfold proveEntry
    rw [h2, decide_eq_false (show ¬ ((j : Int) < 0) by omega)]
    rfl
theorem Shown.top {l : List TEntry} {s : ByteArray} {j : Nat} (h : Shown l s j) : topFrom (leafOf (at' l j)) (j : Int) (l.length : Int) (pathFor (l.map leafOf) (j : Int)) = (topOf (l.map leafOf), true) := top_at h.ord h.lt
theorem root_is (l : List TEntry) : rootFrom (l.length : Int) (topOf (l.map leafOf)) = rootOf l := rfl
theorem Shown.good {l : List TEntry} {s : ByteArray} {j : Nat} (h : Shown l s j) : checkEntry (rootOf l) (l.length : Int) (at' l j) ((j : Int), pathFor (l.map leafOf) (j : Int)) = true := by
  unfold checkEntry
  rw [h.ord.entry j h.lt]
  dsimp only
  rw [h.top]
  dsimp only
  rw [root_is, beq_self_eq_true]
  rfl
theorem Shown.root {l : List TEntry} {s : ByteArray} {j : Nat} (h : Shown l s j) : checkEntry (rootOf l + 1) (l.length : Int) (at' l j) ((j : Int), pathFor (l.map leafOf) (j : Int)) = false := by
  unfold checkEntry
  rw [h.ord.entry j h.lt]
  dsimp only
  rw [h.top]
  dsimp only
  rw [root_is]
  exact root_ne _
theorem topFrom_some {l : List Int} {i : Nat} {leaf : Int} {path : List Int} {t : Int} (h : i < l.length) (hl : l.length ≤ 12) (e : topFrom leaf (i : Int) (l.length : Int) path = (t, true)) : tfN l.length leaf i l.length path = some t := by
  rw [topFrom_in _ _ h hl] at e
  cases ht : tfN l.length leaf i l.length path with
  | none => rw [ht] at e; cases e
  | some u => rw [ht] at e; injection e with e1 _; rw [e1]
theorem leaf_range (e : TEntry) : InM (leafOf e) := hash_range _
theorem top_range {l : List Int} (h : ∀ x ∈ l, InM x) (h0 : 0 < l.length) (hl : l.length ≤ 12) : InM (topOf l) := by
  have e := topFrom_path (l := l) (i := 0) h0 hl
  have := topFrom_some h0 hl e
  refine tfN_range _ ?_ this
  exact h _ (getD_mem h0)
theorem Shown.topM {l : List TEntry} {s : ByteArray} {j : Nat} (h : Shown l s j) : InM (topOf (l.map leafOf)) := by
  have := h.lt
  refine top_range (fun x hx => ?_) (by rw [List.length_map]; omega) (by rw [List.length_map]; exact h.ord.len)
  obtain ⟨e, _, rfl⟩ := List.mem_map.1 hx
  exact leaf_range e
theorem root_inj {n t u : Int} (ht : InM t) (hu : InM u) (e : rootFrom n t = rootFrom n u) : t = u := by
  have := hash_inj [231, n] [] e
  rwa [modM_id ht, modM_id hu] at this
theorem root_cnt {n m t : Int} (hn : 0 ≤ n ∧ n < 1000) (hm : 0 ≤ m ∧ m < 1000) (e : rootFrom n t = rootFrom m t) : n = m := by
  have := hash_inj [231] [t] e
  rwa [modM_id ⟨hn.1, by omega⟩, modM_id ⟨hm.1, by omega⟩] at this
theorem Shown.more {l : List TEntry} {s : ByteArray} {j : Nat} (h : Shown l s j) : checkEntry (rootOf l) ((l.length : Int) + 1) (at' l j) ((j : Int), pathFor (l.map leafOf) (j : Int)) = false := by
  have hlen := h.ord.len
  have hj := h.lt
  have hlm : (l.map leafOf).length = l.length := List.length_map _
  unfold checkEntry
  dsimp only
  by_cases h12 : l.length = 12
  · have e : topFrom (leafOf (at' l j)) (j : Int) ((l.length : Int) + 1) (pathFor (l.map leafOf) (j : Int)) = (0, false) := by
      have : inR ((l.length : Int) + 1) 1 12 = false := by
        unfold inR
        rw [decide_eq_false (show ¬ ((l.length : Int) + 1 ≤ 12) by omega), Bool.and_false]
      unfold topFrom
      rw [this]
      rfl
    rw [e, Bool.false_and, Bool.and_false]
  · have hin : (inR ((l.length : Int) + 1) 1 12 && inR (j : Int) 0 ((l.length : Int) + 1 - 1)) = true := by
      unfold inR
      rw [decide_eq_true (show (1 : Int) ≤ (l.length : Int) + 1 by omega), decide_eq_true (show (l.length : Int) + 1 ≤ 12 by omega), decide_eq_true (show (0 : Int) ≤ (j : Int) by omega), decide_eq_true (show (j : Int) ≤ (l.length : Int) + 1 - 1 by omega)]
      rfl
    have e : topFrom (leafOf (at' l j)) (j : Int) ((l.length : Int) + 1) (pathFor (l.map leafOf) (j : Int)) = tfRes (tfN (l.length + 1) (leafOf (at' l j)) j (l.length + 1) (pathFor (l.map leafOf) (j : Int))) := by
      unfold topFrom
      rw [hin, cond_true, Int.toNat_natCast, show ((l.length : Int) + 1).toNat = l.length + 1 by omega]
    rw [e]
    cases ht : tfN (l.length + 1) (leafOf (at' l j)) j (l.length + 1) (pathFor (l.map leafOf) (j : Int)) with
    | none =>
      show (_ && (false && _)) = false
      rw [Bool.false_and, Bool.and_false]
    | some t' =>
      have h1 := h.top
      rw [← hlm] at h1
      have h2 := topFrom_some (by rw [hlm]; exact hj) (by rw [hlm]; exact hlen) h1
      rw [hlm, tfN_more l.length (l.length + 1) _ _ _ _ (by omega) (by omega)] at h2
      have h3 := tfN_grow (l.length + 1) hj (by omega) h2 ht
      subst h3
      have hr : (rootFrom ((l.length : Int) + 1) (topOf (l.map leafOf)) == rootOf l) = false := by
        cases hb : (rootFrom ((l.length : Int) + 1) (topOf (l.map leafOf)) == rootOf l) with
        | false => rfl
        | true =>
          have hb := eq_of_beq hb
          rw [← root_is] at hb
          have := root_cnt ⟨by omega, by omega⟩ ⟨by omega, by omega⟩ hb
          omega
      show (_ && (true && (rootFrom ((l.length : Int) + 1) (topOf (l.map leafOf)) == rootOf l))) = false
      rw [hr, Bool.and_false, Bool.and_false]
theorem Shown.other {l : List TEntry} {s : ByteArray} {j : Nat} (h : Shown l s j) (hd : DrawnE (at' l j)) (hc : checkEntry (rootOf l) (l.length : Int) (s, (1, (besideV (at' l j).2.2.1, []))) ((j : Int), pathFor (l.map leafOf) (j : Int)) = true) : eqEntry (s, (1, (besideV (at' l j).2.2.1, []))) (at' l j) = true := by
  have hlen := h.ord.len
  have hj := h.lt
  have hlm : (l.map leafOf).length = l.length := List.length_map _
  have hlab := h.lab
  subst hlab
  refine other_leaf hd (h.ord.entry j hj) ?_
  unfold checkEntry at hc
  obtain ⟨_, hc⟩ := (Bool.and_eq_true _ _).mp hc
  obtain ⟨h1, h2⟩ := (Bool.and_eq_true _ _).mp hc
  dsimp only at h1 h2
  by_cases hne : leafOf ((at' l j).1, (1, (besideV (at' l j).2.2.1, []))) = leafOf (at' l j)
  · exact hne
  · exfalso
    have hle : (l.map leafOf).getD j 0 = leafOf (at' l j) := leaf_at hj
    obtain ⟨u, hu, hne2⟩ := topFrom_other (l := l.map leafOf) (i := j) (leaf := leafOf ((at' l j).1, (1, (besideV (at' l j).2.2.1, [])))) (by rw [hlm]; exact hj) (by rw [hlm]; exact hlen) (by rw [hle]; exact leaf_range _) (leaf_range _) (by rw [hle]; exact hne)
    have hum : InM u := tfN_range _ (leaf_range _) (topFrom_some (by rw [hlm]; exact hj) (by rw [hlm]; exact hlen) hu)
    rw [hlm] at hu
    rw [hu] at h2
    have h2 := eq_of_beq h2
    rw [← root_is] at h2
    exact hne2 (root_inj hum h.topM h2)
def chkEq (r : TCur × List TEntry) : TCur × Int := belowC r.1 (r.2.length : Int)
def chkE (r : TCur × List TEntry) : TEntry := r.2.getD (chkEq r).2.toNat (ByteArray.empty, (0, (0, [])))
def chkDp (r : TCur × List TEntry) (e : TEntry) (q : TCur × Int) : Int × (Int × (TEntry × TProof)) :=
  (rootOf r.2, (cond (q.2 == 0) (r.2.length : Int) (cond (q.2 == 1) (IntKind.wrap .i64 ((r.2.length : Int) + 1)) (r.2.length : Int)),
    (cond (q.2 == 0) (e.1, (e.2.1, (IntKind.wrap .i64 (e.2.2.1 + 1), e.2.2.2))) e, (bentP q.1 (proveEntry r.2 e.1).1).2)))
def chkDr (r : TCur × List TEntry) : Int × (Int × (TEntry × TProof)) := cond ((r.2.length : Int) == 0) (rootOf r.2, (0, ((anyE r.1).2, (0, [])))) (chkDp r (chkE r) (belowC (chkEq r).1 6))
def chkD (l : List Int) : Int × (Int × (TEntry × TProof)) := chkDr (listC (newC l))
theorem chkE_w {r : TCur × List TEntry} (h : wEs r.2 ≤ 240) : wE (chkE r) ≤ 240 := by
  unfold chkE
  by_cases hj : (chkEq r).2.toNat < r.2.length
  · exact Nat.le_trans (wEs_mem (getD_mem hj)) h
  · rw [List.getD_eq_getElem?_getD, List.getElem?_eq_none (by omega)]
    exact Nat.zero_le _
theorem chkDr_w {r : TCur × List TEntry} (h : wEs r.2 ≤ 240) : wE (chkDr r).2.2.1 ≤ 1000 := by
  have h1 := chkE_w h
  have h2 := wE_small (anyE_le r.1)
  unfold chkDr chkDp
  cases ((r.2.length : Int) == 0) with
  | true => show wE (anyE r.1).2 ≤ 1000; omega
  | false =>
    cases ((belowC (chkEq r).1 6).2 == 0) with
    | true => show wE (chkE r) ≤ 1000; omega
    | false => show wE (chkE r) ≤ 1000; omega
theorem chkD_w (l : List Int) : wE (chkD l).2.2.1 ≤ 1000 := chkDr_w (listC_w _)
def allDp (r : TCur × List TEntry) : Int × List TEntry := (IntKind.wrap .i64 (rootOf r.2 + (belowC r.1 2).2), r.2)
def allD (l : List Int) : Int × List TEntry := allDp (anyEs (newC l))
theorem allD_w (l : List Int) : wEs (allD l).2 ≤ 500 := anyEs_w _
end Go.Proofs.Ythgbcbnmdioknaa.Ref
