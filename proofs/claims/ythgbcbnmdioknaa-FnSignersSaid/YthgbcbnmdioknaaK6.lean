/- The proof system: an abstract machine over data, and that what it computes the code computes.
   Conditions: as each theorem states. -/
import Derived.Test.YthgbcbnmdioknaaK3
import Derived.Shelf.Sort.Plain
import Derived.Shelf.Slices.CompactI
import Derived.Shelf.Slices.In.SortNone
import Derived.Sort.OwnSortedInts
import Derived.Lib.OwnBridge
set_option linter.unusedVariables false
set_option linter.unusedSimpArgs false
namespace Go.Proofs.Ythgbcbnmdioknaa.Ref
open Go.RowKit Go.Proofs.YthgbcbnmdioknaaW.PrintWords Go.Proofs.YthgbcbnmdioknaaW.PrintLast

abbrev sortI (l : List Int) : List Int := l.mergeSort fun x y => decide (x ≤ y)
section
variable {P : Program} {f e : Nat} {w : World} {ok : Nat → Prop} {v : Value} {xs u : List Int} {k : IntKind}
theorem intRow_of (h : Kd.S (Ty.kd (.int k)) e w 0 ok v xs) : (∀ b, v.ownBlock = some b → ok b) ∧ w.ownsRow 0 e 1 v xs.length (xs.map (Value.int k)) := by
  obtain ⟨h0, inner, ho, hr⟩ := Kd.S_R h
  have h1 := Kd.reps_encs (enc := Value.int k) hr
  subst h1
  exact ⟨h0, ho⟩
theorem intRow_S (h0 : ∀ b, v.ownBlock = some b → ok b) (ho : w.ownsRow 0 e 1 v xs.length (xs.map (Value.int k))) : Kd.S (Ty.kd (.int k)) e w 0 ok v xs :=
  flat_S (t := .int k) rfl ⟨h0, _, ho, Kd.reps_scalar xs⟩
theorem sort_said (hs : Stands P f) (hbig : u.length ≤ 549755813888)
    (hc : ∀ (blk off cap : Nat) (zs : List Int) (w : World), Go.Sort.Holds (Value.int .i64) w blk off zs.toArray → blk < w.heap.size → zs.length < 4611686018427387904 →
      Calls P f #[.slice (some ⟨blk, off, none⟩) zs.length cap] w fun e w' => e = .returned (.tuple #[]) ∧ ∃ n os, w' = Go.Sort.grow (Go.Sort.putRow (Value.int .i64) (Go.Sort.ahead w n) blk off (zs.mergeSort fun x y => decide (x ≤ y)).toArray) os)
    (hn : ∀ (p : Option Addr) (cap : Nat) (w : World), Calls P f #[.slice p 0 cap] w fun e w' => e = .returned (.tuple #[]) ∧ w' = w) :
    SaidR P f (.slice e (.int .i64)) u (.own 0) [⟨.slice e (.int .i64), sortI u⟩] := by
  refine ⟨hs, fun w g cs hv hown hlo => ?_⟩
  simp only [VR] at hv
  obtain ⟨hcs, _⟩ := hv
  subst hcs
  have hown2 := hown
  obtain ⟨hσ, hS⟩ := hown
  obtain ⟨h0, ho⟩ := intRow_of hS
  have harg : valOf (.slice e (.int .i64)) [g.ρ 0] = g.ρ 0 := rfl
  rw [harg]
  by_cases hnil : g.ρ 0 = .slice none 0 0
  · have hu : u = [] := by
      rcases ho.2 with ⟨_, h⟩ | ⟨b, cap, cur, h, _⟩
      · exact List.length_eq_zero_iff.1 h
      · rw [hnil] at h; cases h
    subst hu
    rw [hnil]
    refine Calls.mono (hn none 0 w) ?_
    rintro e1 w' ⟨rfl, rfl⟩
    refine ⟨_, _, rfl, rfl, rfl, rfl, rfl, Nat.le_refl _, fun _ _ _ => rfl, fun _ => ⟨g, (show OwnR g w' (.slice e (.int .i64)) (sortI []) (.own 0) by rw [show sortI [] = [] from List.mergeSort_nil]; exact hown2), fun j hj => ⟨rfl, fun k hk => ⟨.inl ⟨j, hj, hk⟩, (hlo.1 j hj).2 k hk⟩⟩, hlo.2⟩⟩
  · obtain ⟨blk, cap, e1, hb, hlt, hle, hcm, hlen, hH⟩ := Go.Lib.holds_of_ownsRow ho hnil
    rw [e1]
    refine Calls.mono (hc blk 0 cap u w hH hlt (by omega)) ?_
    rintro e2 w' ⟨rfl, n, os, rfl⟩
    have hX : LentS g (idsT (.slice e (.int .i64)) (.own 0)) blk := ⟨0, List.mem_singleton.2 rfl, h0 blk (by rw [e1]; rfl)⟩
    have hgr := Go.grownBy_sortedI (w := w) (g := blk) (n := n) (os := os) (sortI u).toArray
    refine ⟨_, _, rfl, rfl, hgr.os, hgr.tape, hgr.output, hgr.size, fun k hk hnk => hgr.block k hk (fun e3 => hnk (by injection e3 with e3; rw [e3]; exact hX)), fun _ => ⟨g, ⟨hσ, ?_⟩, fun j hj => ⟨rfl, fun k hk => ⟨.inl ⟨j, hj, hk⟩, Nat.lt_of_lt_of_le ((hlo.1 j hj).2 k hk) hgr.size⟩⟩, hlo.2⟩⟩
    have hl : (sortI u).length = u.length := List.length_mergeSort u
    refine intRow_S (fun b hb => h0 b hb) ?_
    rcases ho.2 with ⟨h, _⟩ | ⟨g', cap', cur, hv', hbase, hbk, q1, q2, q3, q4⟩
    · exact (hnil h).elim
    · rw [e1] at hv' ⊢
      injection hv' with z1 _ z3
      injection z1 with z1
      injection z1 with z1
      subst z1
      subst z3
      rw [hl]
      exact Go.ownsRow_sortedI (n := n) (os := os) (ts := sortI u) hl hbase hbk q1 q2 q3
theorem compact_said (hs : Stands P f)
    (hc : ∀ (blk off cap : Nat) (zs : List Int) (w : World), Go.Sort.Holds (Value.int .i64) w blk off zs.toArray → zs.length ≤ 9223372036854775807 → zs.length ≤ cap →
      Calls P f #[.slice (some ⟨blk, off, none⟩) zs.length cap] w fun e w' => e = .returned (.slice (some ⟨blk, off, none⟩) (Go.Lib.compact zs).length cap) ∧ ∃ q, w' = Go.Sort.putRow (Value.int .i64) (Go.Sort.ahead w q) blk off (Go.Lib.compact zs ++ List.replicate (zs.length - (Go.Lib.compact zs).length) 0).toArray)
    (hn : ∀ (p : Option Addr) (cap : Nat) (w : World), Calls P f #[.slice p 0 cap] w fun e w' => e = .returned (.slice p 0 cap) ∧ w' = w) :
    SaidX P [(.slice e (.int .i64), .own 0)] f [.lend (.slice e (.int .i64)) u (.own 0)] [⟨.slice e (.int .i64), Go.Lib.compact u⟩] := by
  refine ⟨hs, fun w ok vs gm hav hlo hsep => ?_⟩
  obtain ⟨v, vs', rfl, ⟨_, cs, rfl, hv, hown⟩, hvs'⟩ := hav
  have hvs' : vs' = [] := hvs'
  subst hvs'
  simp only [VR] at hv
  obtain ⟨hcs, _⟩ := hv
  subst hcs
  obtain ⟨hσ, hS⟩ := hown
  obtain ⟨h0, ho⟩ := intRow_of hS
  have harg : [valOf (.slice e (.int .i64)) [gm.ρ 0]].toArray = #[gm.ρ 0] := rfl
  rw [harg]
  have hX : ∀ b, (gm.ρ 0).ownBlock = some b → LentS gm (avIds [.lend (.slice e (.int .i64)) u (.own 0)]) b := fun b hb => ⟨0, List.mem_singleton.2 rfl, h0 b hb⟩
  have hlt : ∀ k, gm.S 0 k → k < w.heap.size := (hlo.1 0 (List.mem_singleton.2 rfl)).2
  have fin : ∀ (w' : World) (v : Value), v.oneCell' = true → v.ownBlock = (gm.ρ 0).ownBlock → w.grownBy w' (gm.ρ 0).ownBlock → w'.ownsRow 0 e 1 v (Go.Lib.compact u).length ((Go.Lib.compact u).map (Value.int .i64)) →
      PostG [(.slice e (.int .i64), .own 0)] w ok (LentS gm (avIds [.lend (.slice e (.int .i64)) u (.own 0)])) none [⟨.slice e (.int .i64), Go.Lib.compact u⟩] v w' := by
    intro w' v hone hob hgr hro
    refine ⟨_, { gm with ρ := fun _ => v }, [v], rfl, hgr.os, hgr.tape, hgr.output, hgr.size, fun k hk hnk _ => hgr.block k hk (fun e3 => hnk (hX k e3.symm)), rfl, ⟨rfl, [v], [], rfl, ?_, ⟨hσ, intRow_S (fun b hb => h0 b (hob ▸ hb)) hro⟩, rfl⟩, fun j hj => ?_, fun i hi j hj hne => ?_⟩
    · simp only [VR]
      trivial
    · have := List.mem_singleton.1 hj
      subst this
      exact ⟨hone, fun k hk => ⟨.inl ⟨0, List.mem_singleton.2 rfl, hk⟩, Nat.lt_of_lt_of_le (hlt k hk) hgr.size⟩⟩
    · exact (hne ((List.mem_singleton.1 hi).trans (List.mem_singleton.1 hj).symm)).elim
  by_cases hnil : gm.ρ 0 = .slice none 0 0
  · have hu : u = [] := by
      rcases ho.2 with ⟨_, h⟩ | ⟨b, cap, cur, h, _⟩
      · exact List.length_eq_zero_iff.1 h
      · rw [hnil] at h; cases h
    subst hu
    rw [hnil]
    refine Calls.mono (hn none 0 w) ?_
    rintro e1 w' ⟨rfl, rfl⟩
    refine fin w' _ rfl (by rw [hnil]) ⟨rfl, rfl, rfl, Nat.le_refl _, fun _ _ _ => rfl⟩ ?_
    rw [hnil] at ho
    exact ho
  · obtain ⟨blk, cap, e1, hb, hlt2, hle, hcm, hlen, hH⟩ := Go.Lib.holds_of_ownsRow ho hnil
    rw [e1]
    refine Calls.mono (hc blk 0 cap u w hH (by have := hcm; simp only [maxLen] at this; omega) hle) ?_
    rintro e2 w' ⟨rfl, q, rfl⟩
    have hcl := Go.Lib.compact_length_le u
    refine fin _ _ rfl (by rw [e1]; rfl) ⟨rfl, rfl, rfl, by simp [Go.Sort.putRow, Go.Sort.mapBlock, Go.Sort.ahead], fun k hk hne => ?_⟩ ?_
    · have : blk ≠ k := fun e3 => hne (by rw [e1, e3]; rfl)
      simp [Go.Sort.putRow, Go.Sort.mapBlock, Go.Sort.ahead, Array.getElem?_modify, this]
    · rw [e1] at ho
      have := Go.Lib.ownsRow_putRow (q := q) (k := (Go.Lib.compact u).length) (ys := Go.Lib.compact u ++ List.replicate (u.length - (Go.Lib.compact u).length) 0) ho (by simp; omega) (by omega)
      rw [List.take_left] at this
      exact this
end
end Go.Proofs.Ythgbcbnmdioknaa.Ref

namespace Go.Proofs.Ythgbcbnmdioknaa.Ref
open Go.RowKit Go.Proofs.YthgbcbnmdioknaaW.PrintWords Go.Proofs.YthgbcbnmdioknaaW.PrintLast

theorem compact_facts (d : Array Int) (hs : ∀ i j, i ≤ j → j < d.size → d[i]! ≤ d[j]!) : ∀ m, m ≤ d.size →
    (∀ x, x ∈ Go.Lib.compactUpTo d m ↔ ∃ j, j < m ∧ d[j]! = x) ∧ (Go.Lib.compactUpTo d m).Pairwise (· < ·)
  | 0, _ => ⟨fun x => ⟨fun h => by simp [Go.Lib.compactUpTo] at h, fun ⟨j, h, _⟩ => by omega⟩, by simp [Go.Lib.compactUpTo]⟩
  | m + 1, hm => by
    obtain ⟨h1, h2⟩ := compact_facts d hs m (by omega)
    rw [Go.Lib.compactUpTo_succ]
    by_cases hk : Go.Lib.keeps d m = true
    · rw [if_pos hk]
      refine ⟨fun x => ?_, ?_⟩
      · rw [List.mem_append, h1, List.mem_singleton]
        constructor
        · rintro (⟨j, hj, e⟩ | e)
          · exact ⟨j, by omega, e⟩
          · exact ⟨m, by omega, e.symm⟩
        · rintro ⟨j, hj, e⟩
          by_cases e2 : j = m
          · subst e2; exact .inr e.symm
          · exact .inl ⟨j, by omega, e⟩
      · rw [List.pairwise_append]
        refine ⟨h2, List.pairwise_singleton _ _, fun a ha b hb => ?_⟩
        rw [List.mem_singleton] at hb
        subst hb
        obtain ⟨j, hj, e⟩ := (h1 a).1 ha
        have hne : d[m]! ≠ d[m - 1]! := by
          have := of_decide_eq_true hk
          rcases this with h | h
          · omega
          · exact h
        have q1 := hs j (m - 1) (by omega) (by omega)
        have q2 := hs (m - 1) m (by omega) (by omega)
        omega
    · rw [if_neg hk, List.append_nil]
      refine ⟨fun x => ?_, h2⟩
      rw [h1]
      constructor
      · rintro ⟨j, hj, e⟩
        exact ⟨j, by omega, e⟩
      · rintro ⟨j, hj, e⟩
        by_cases e2 : j = m
        · subst e2
          have hno : ¬ (j = 0 ∨ d[j]! ≠ d[j - 1]!) := fun h => hk (decide_eq_true h)
          have h0 : ¬ j = 0 := fun h => hno (.inl h)
          have h3 : d[j]! = d[j - 1]! := by
            by_cases h : d[j]! = d[j - 1]!
            · exact h
            · exact (hno (.inr h)).elim
          exact ⟨j - 1, by omega, by rw [← h3, e]⟩
        · exact ⟨j, by omega, e⟩
theorem sorted_facts (l : List Int) : (∀ x, x ∈ Go.Lib.compact (sortI l) ↔ x ∈ l) ∧ (Go.Lib.compact (sortI l)).Pairwise (· < ·) := by
  have hp : (sortI l).Pairwise (fun a b => decide (a ≤ b) = true) := List.pairwise_mergeSort (le := fun x y => decide (x ≤ y)) (fun a b c h1 h2 => by
    have := of_decide_eq_true h1; have := of_decide_eq_true h2; exact decide_eq_true (by omega)) (fun a b => by
    rcases Int.le_total a b with h | h
    · rw [decide_eq_true h]; rfl
    · rw [decide_eq_true h, Bool.or_true]) l
  have hget : ∀ i, i < (sortI l).length → (sortI l).toArray[i]! = (sortI l).getD i 0 := by
    intro i hi
    rw [getElem!_pos _ i (by simpa using hi), List.getD_eq_getElem?_getD, List.getElem?_eq_getElem hi]
    simp
  have hs : ∀ i j, i ≤ j → j < (sortI l).toArray.size → (sortI l).toArray[i]! ≤ (sortI l).toArray[j]! := by
    intro i j hij hj
    have hj : j < (sortI l).length := by simpa using hj
    by_cases e : i = j
    · subst e; exact Int.le_refl _
    · rw [getElem!_pos _ i (show i < (sortI l).toArray.size by rw [List.size_toArray]; omega), getElem!_pos _ j (show j < (sortI l).toArray.size by rw [List.size_toArray]; omega)]
      have := List.pairwise_iff_getElem.1 hp i j (by omega) hj (by omega)
      simpa using this
  obtain ⟨h1, h2⟩ := compact_facts _ hs (sortI l).length (by simp)
  refine ⟨fun x => ?_, h2⟩
  have h1 := h1 x
  refine h1.trans ?_
  have hm : x ∈ l ↔ x ∈ sortI l := List.mem_mergeSort.symm
  rw [hm]
  constructor
  · rintro ⟨j, hj, e⟩
    rw [getElem!_pos _ j (by simpa using hj)] at e
    rw [← e]
    simp
  · intro hx
    obtain ⟨j, hj, e⟩ := List.getElem_of_mem hx
    refine ⟨j, hj, ?_⟩
    rw [getElem!_pos _ j (by simpa using hj)]
    simpa using e
theorem asc_ext : ∀ {a b : List Int}, a.Pairwise (· < ·) → b.Pairwise (· < ·) → (∀ x, x ∈ a ↔ x ∈ b) → a = b
  | [], [], _, _, _ => rfl
  | [], y :: b, _, _, h => by have := (h y).2 (List.mem_cons_self ..); cases this
  | x :: a, [], _, _, h => by have := (h x).1 (List.mem_cons_self ..); cases this
  | x :: a, y :: b, ha, hb, h => by
    rw [List.pairwise_cons] at ha hb
    have hxy : x = y := by
      rcases List.mem_cons.1 ((h x).1 (List.mem_cons_self ..)) with e | e
      · exact e
      · rcases List.mem_cons.1 ((h y).2 (List.mem_cons_self ..)) with e2 | e2
        · exact e2.symm
        · have := hb.1 x e; have := ha.1 y e2; omega
    subst hxy
    rw [asc_ext ha.2 hb.2 (fun z => ?_)]
    constructor
    · intro hz
      rcases List.mem_cons.1 ((h z).1 (List.mem_cons_of_mem _ hz)) with e | e
      · subst e; have := ha.1 _ hz; omega
      · exact e
    · intro hz
      rcases List.mem_cons.1 ((h z).2 (List.mem_cons_of_mem _ hz)) with e | e
      · subst e; have := hb.1 _ hz; omega
      · exact e
def sKey (msg : List Int) (s : TSig) : Option Int := cond (isSigBy s msg) (some s.1) none
def signers (msg : List Int) (sigs : List TSig) : List Int := Go.Lib.compact (sortI (sigs.filterMap (sKey msg)))
def sFrom (msg : List Int) (sigs : List TSig) : Nat → Nat → List Int
  | 0, _ => []
  | d + 1, j => cond (hasSig sigs (j : Int) msg) ((j : Int) :: sFrom msg sigs d (j + 1)) (sFrom msg sigs d (j + 1))
theorem sFrom_mem (msg : List Int) (sigs : List TSig) : ∀ (d j : Nat) (x : Int), x ∈ sFrom msg sigs d j ↔ (j : Int) ≤ x ∧ x < (j + d : Nat) ∧ hasSig sigs x msg = true
  | 0, j, x => ⟨fun h => (by cases h), fun h => by omega⟩
  | d + 1, j, x => by
    have ih := sFrom_mem msg sigs d (j + 1) x
    unfold sFrom
    cases hs : hasSig sigs (j : Int) msg with
    | true =>
      simp only [cond_true, List.mem_cons, ih]
      constructor
      · rintro (e | ⟨h1, h2, h3⟩)
        · subst e; exact ⟨Int.le_refl _, by omega, hs⟩
        · exact ⟨by omega, by omega, h3⟩
      · rintro ⟨h1, h2, h3⟩
        by_cases e : x = (j : Int)
        · exact .inl e
        · exact .inr ⟨by omega, by omega, h3⟩
    | false =>
      simp only [cond_false, ih]
      constructor
      · rintro ⟨h1, h2, h3⟩
        exact ⟨by omega, by omega, h3⟩
      · rintro ⟨h1, h2, h3⟩
        refine ⟨?_, by omega, h3⟩
        by_cases e : x = (j : Int)
        · subst e; rw [hs] at h3; cases h3
        · omega
theorem sFrom_asc (msg : List Int) (sigs : List TSig) : ∀ (d j : Nat), (sFrom msg sigs d j).Pairwise (· < ·)
  | 0, _ => List.Pairwise.nil
  | d + 1, j => by
    unfold sFrom
    have ih := sFrom_asc msg sigs d (j + 1)
    cases hasSig sigs (j : Int) msg with
    | true =>
      refine List.pairwise_cons.2 ⟨fun x hx => ?_, ih⟩
      have := ((sFrom_mem msg sigs d (j + 1) x).1 hx).1
      omega
    | false => exact ih
theorem isSigBy_range {s : TSig} {msg : List Int} (h : isSigBy s msg = true) : 1 ≤ s.1 ∧ s.1 ≤ 99 := by
  have h := ((Bool.and_eq_true _ _).mp h).1
  have h := (Bool.and_eq_true _ _).mp h
  exact ⟨of_decide_eq_true h.1, of_decide_eq_true h.2⟩
theorem sKeys_mem {msg : List Int} {sigs : List TSig} {x : Int} : x ∈ sigs.filterMap (sKey msg) ↔ ∃ s ∈ sigs, isSigBy s msg = true ∧ s.1 = x := by
  rw [List.mem_filterMap]
  constructor
  · rintro ⟨s, h1, h2⟩
    unfold sKey at h2
    cases h : isSigBy s msg with
    | true => rw [h] at h2; exact ⟨s, h1, h, Option.some.inj h2⟩
    | false => rw [h] at h2; cases h2
  · rintro ⟨s, h1, h2, h3⟩
    exact ⟨s, h1, by unfold sKey; rw [h2, ← h3]; rfl⟩
theorem hasSig_iff {sigs : List TSig} {x : Int} {msg : List Int} : hasSig sigs x msg = true ↔ ∃ s ∈ sigs, isSigBy s msg = true ∧ s.1 = x := by
  unfold hasSig
  rw [List.any_eq_true]
  constructor
  · rintro ⟨s, h1, h2⟩
    have h2 := (Bool.and_eq_true _ _).mp h2
    exact ⟨s, h1, h2.2, eq_of_beq h2.1⟩
  · rintro ⟨s, h1, h2, h3⟩
    exact ⟨s, h1, by rw [h2, h3]; simp⟩
theorem signers_eq (msg : List Int) (sigs : List TSig) : signers msg sigs = sFrom msg sigs 99 1 := by
  obtain ⟨h1, h2⟩ := sorted_facts (sigs.filterMap (sKey msg))
  refine asc_ext h2 (sFrom_asc _ _ _ _) (fun x => ?_)
  refine (h1 x).trans ?_
  rw [sFrom_mem, sKeys_mem, ← hasSig_iff]
  constructor
  · intro h
    obtain ⟨s, _, q1, q2⟩ := hasSig_iff.1 h
    have := isSigBy_range q1
    exact ⟨by omega, by omega, h⟩
  · exact fun h => h.2.2
theorem signers_asc (msg : List Int) (sigs : List TSig) : (signers msg sigs).Pairwise (· < ·) := (sorted_facts _).2
theorem signers_mem {msg : List Int} {sigs : List TSig} {x : Int} : x ∈ signers msg sigs ↔ hasSig sigs x msg = true := by
  unfold signers
  rw [(sorted_facts _).1, sKeys_mem, hasSig_iff]
theorem signers_le (msg : List Int) (sigs : List TSig) : (signers msg sigs).length ≤ sigs.length := by
  have h1 := Go.Lib.compact_length_le (sortI (sigs.filterMap (sKey msg)))
  have h2 : (sortI (sigs.filterMap (sKey msg))).length = (sigs.filterMap (sKey msg)).length := List.length_mergeSort _
  have h3 := List.length_filterMap_le (sKey msg) sigs
  unfold signers
  omega
def msgGo : Nat → TCur → List Int → TCur × List Int
  | 0, c, o => (c, o)
  | n + 1, c, o => msgGo n (belowC c 9).1 (o ++ [(belowC c 9).2])
def msgC (c : TCur) : TCur × List Int := msgGo (belowC c 4).2.toNat (belowC c 4).1 []
theorem okC_msgGo : ∀ (n : Nat) {c : TCur} (o : List Int), okC c = true → okC (msgGo n c o).1 = true
  | 0, _, _, h => h
  | n + 1, _, _, h => okC_msgGo n _ (okC_below _ h)
theorem okC_msg {c : TCur} (h : okC c = true) : okC (msgC c).1 = true := okC_msgGo _ _ (okC_below _ h)
theorem msgGo_len : ∀ (n : Nat) (c : TCur) (o : List Int), (msgGo n c o).2.length = o.length + n
  | 0, _, _ => rfl
  | n + 1, c, o => by
    unfold msgGo
    rw [msgGo_len n, List.length_append]
    simp only [List.length_singleton]
    omega
theorem msgC_le (c : TCur) : (msgC c).2.length ≤ 4 := by
  have h := below_range c (n := 4) (by omega)
  unfold msgC
  rw [msgGo_len]
  simp only [List.length_nil]
  omega
def countD (l : List Int) : TKeys × (List Int × List TSig) := ((anyK (newC l)).2, ((msgC (anyK (newC l)).1).2, (sigsC (msgC (anyK (newC l)).1).1 (anyK (newC l)).2 (msgC (anyK (newC l)).1).2).2))
theorem countD_le (l : List Int) : (countD l).1.1.length ≤ 4 ∧ (countD l).2.1.length ≤ 4 ∧ (countD l).2.2.length ≤ 9 := by
  refine ⟨anyK_le _, msgC_le _, ?_⟩
  have h1 := sigsP_le (heldC (msgC (anyK (newC l)).1).1) (anyK (newC l)).2 (msgC (anyK (newC l)).1).2
  have h2 := anyK_le (newC l)
  show (sigsP (heldC (msgC (anyK (newC l)).1).1) (anyK (newC l)).2 (msgC (anyK (newC l)).1).2).2.length ≤ 9
  omega
end Go.Proofs.Ythgbcbnmdioknaa.Ref
