/- The proof system: an abstract machine over data, and that what it computes the code computes.
   Conditions: as each theorem states. -/
import Derived.Test.YtcmjbplnjjdcdaaGreatK3
import Derived.Lib.SliceRun
import Derived.Lib.SlicesDelete
import Derived.Deep.RegionLaw
import Derived.Deep.LoopGhost
import Derived.Lib.Walk
import Derived.WalkKit
import Derived.Shelf.RegionOpenPlain
import Derived.Sort.WalkB12
import Derived.Shelf.Spec.SlicesInsert
import Derived.Lib.AppendZerosOnto
import Derived.Laws.NewBlocks
import Derived.Conc.MuLone
import Derived.KernelRfl
import Derived.Deep.RegionHeld
import Derived.Defers
import Derived.RegionCalls
import Derived.RegionTactic
import Derived.ChangeAlike
import Derived.Laws.MakeOwn
import Derived.Handy
set_option linter.unusedVariables false
set_option linter.unusedSimpArgs false
namespace Go.Proofs.YtcmjbplnjjdcdaaGreat.Ref
open Go.RowKit Go.Proofs.YtcmjbplnjjdcdaaGreatW.PrintWords Go.Proofs.YtcmjbplnjjdcdaaGreatW.PrintLast

abbrev cellOf (v : Value) : Value := v
section
variable {α : Type} {d : Kd α} {e blk cap i : Nat} {w w' : World} {ok : Nat → Prop} {xs : List α} {cur cur' : Array Value}
theorem chunk_del {inner : List Value} {sz n i j : Nat} (hl : inner.length = n * sz) (hi : i < n) (hj : j < n - 1) :
    ((inner.take (i * sz) ++ inner.drop ((i + 1) * sz)).drop (j * sz)).take sz = (inner.drop ((if j < i then j else j + 1) * sz)).take sz := by
  have h1 : (i + 1) * sz = i * sz + sz := Nat.succ_mul i sz
  have h2 : (j + 1) * sz = j * sz + sz := Nat.succ_mul j sz
  have h3 : (i + 1) * sz ≤ n * sz := Nat.mul_le_mul_right sz hi
  apply List.ext_getElem?
  intro t
  rw [List.getElem?_take, List.getElem?_take]
  by_cases ht : t < sz
  · rw [if_pos ht, if_pos ht, List.getElem?_drop, List.getElem?_drop, List.getElem?_append, List.length_take]
    by_cases hji : j < i
    · have h4 : (j + 1) * sz ≤ i * sz := Nat.mul_le_mul_right sz hji
      rw [if_pos hji, if_pos (by omega), List.getElem?_take, if_pos (by omega)]
    · have h4 : i * sz ≤ j * sz := Nat.mul_le_mul_right sz (by omega)
      rw [if_neg hji, if_neg (by omega), List.getElem?_drop]
      congr 1
      omega
  · rw [if_neg ht, if_neg ht]
theorem row_del (h : Kd.S d e w 0 ok (.slice (some ⟨blk, 0, none⟩) xs.length cap) xs) (hi : i < xs.length) (hg : w.heap[blk]? = some (.cells cur e (0, 0))) (hw : ∀ k, k ≠ blk → k < w.heap.size → w'.heap[k]? = w.heap[k]?)
    (hb : w'.heap[blk]? = some (.cells cur' e (0, 0))) (hs : cur'.size = cur.size) (htk : cur'.toList.take ((xs.length - 1) * d.sz) = (cur.toList.take (xs.length * d.sz)).take (i * d.sz) ++ (cur.toList.take (xs.length * d.sz)).drop ((i + 1) * d.sz)) :
    Kd.S d e w' 0 ok (.slice (some ⟨blk, 0, none⟩) (xs.length - 1) cap) (xs.eraseIdx i) := by
  obtain ⟨f, h⟩ := h
  have hbd := Kd.R_bound h
  obtain ⟨h0, inner, ho, hr⟩ := hbd
  have h0' := h.1
  rw [List.length_zipIdx] at ho
  rcases ho.2 with ⟨h1, _⟩ | ⟨g', cap', cur0, hv, hbase, hgb, q1, q2, q3, q4⟩
  · cases h1
  injection hv with z1 _ z3
  injection z1 with z1
  injection z1 with z1
  subst z1
  subst z3
  rw [hg] at hgb
  injection hgb with hgb
  injection hgb with hgb
  subst hgb
  have hl : (xs.eraseIdx i).length = xs.length - 1 := List.length_eraseIdx_of_lt hi
  have hq3 : cur.size = cap * d.sz := q3
  have hle : xs.length * d.sz ≤ cap * d.sz := Nat.mul_le_mul_right d.sz q1
  have q4' : cur.toList.take (xs.length * d.sz) = inner := q4
  have hil : inner.length = xs.length * d.sz := by have h6 : cur.toList.length = cur.size := Array.length_toList; rw [← q4', List.length_take]; omega
  rw [q4'] at htk
  have h3 : (i + 1) * d.sz ≤ xs.length * d.sz := Nat.mul_le_mul_right d.sz hi
  have h4 : (i + 1) * d.sz = i * d.sz + d.sz := Nat.succ_mul i d.sz
  have h5 : xs.length * d.sz = (xs.length - 1) * d.sz + d.sz := by rw [← Nat.succ_mul]; congr 1; omega
  have hil' : (inner.take (i * d.sz) ++ inner.drop ((i + 1) * d.sz)).length = (xs.length - 1) * d.sz := by
    rw [List.length_append, List.length_take, List.length_drop]
    omega
  refine ⟨fun k => if f k < i then f k else if f k = i then xs.length else f k - 1, h0', inner.take (i * d.sz) ++ inner.drop ((i + 1) * d.sz), ⟨?_, .inr ⟨blk, cap, cur', ?_, Nat.zero_le _, hb, ?_, q2, hs.trans q3, ?_⟩⟩, ?_, fun j p hj => ?_⟩
  · rw [List.length_zipIdx, hl]; exact hil'
  · rw [List.length_zipIdx, hl]
  · rw [List.length_zipIdx, hl]; omega
  · rw [List.length_zipIdx, hl]; exact htk
  · rw [List.length_zipIdx, hl]; exact hil'
  · obtain ⟨y, hy, rfl⟩ := zipIdx_at hj
    have hjl : j < xs.length - 1 := by rw [← hl]; exact (List.getElem?_eq_some_iff.1 hy).1
    rw [List.getElem?_eraseIdx] at hy
    have hxy : xs[if j < i then j else j + 1]? = some y := by
      by_cases c : j < i
      · rw [if_pos c] at hy ⊢; exact hy
      · rw [if_neg c] at hy ⊢; exact hy
    have hM := hr.2 (if j < i then j else j + 1) (y, if j < i then j else j + 1) (Kd.zip_at hxy)
    show d.M w' 0 _ y _
    rw [show ((inner.take (i * d.sz) ++ inner.drop ((i + 1) * d.sz)).drop (j * (Kd.tag _ d).sz)).take (Kd.tag _ d).sz = _ from chunk_del (sz := d.sz) hil hi hjl]
    have hM : d.M w 0 _ y ((inner.drop ((if j < i then j else j + 1) * d.sz)).take d.sz) := hM
    refine d.M_mono (fun k hk => ?_) (d.M_move (w1 := w') (fun k hk => ?_) hM)
    · obtain ⟨⟨⟨hk1, hk2, hk3, _⟩, hk4⟩, hk5⟩ := hk
      refine ⟨⟨hk1, hk4⟩, ?_⟩
      have hk5 : f k = if j < i then j else j + 1 := hk5
      show (if f k < i then f k else if f k = i then xs.length else f k - 1) = 0 + j
      rw [Nat.zero_add]
      by_cases c : j < i
      · rw [if_pos c] at hk5
        rw [if_pos (by omega), hk5]
      · rw [if_neg c] at hk5
        rw [if_neg (by omega), if_neg (by omega), hk5]
        omega
    · obtain ⟨⟨⟨hk1, hk2, hk3, _⟩, hk4⟩, hk5⟩ := hk
      exact hw k (fun e => hk4 (by rw [e]; rfl)) hk3
end
/-- What the library's Delete does to the cells of a row of elements of size sz, one element taken out. -/
def DelC (P : Program) (f sz : Nat) : Prop := ∀ (blk cap n i : Nat) (d : Array Value) (w : World), Go.Sort.Holds cellOf w blk 0 d → d.size = n * sz → (∀ v ∈ d.toList, v.oneCell' = true) → i < n → n ≤ cap → cap ≤ 9223372036854775807 → blk < w.heap.size →
  Calls P f #[.slice (some ⟨blk, 0, none⟩) n cap, .int .i64 i, .int .i64 ((i + 1 : Nat) : Int)] w fun e w' => e = .returned (.slice (some ⟨blk, 0, none⟩) (n - 1) cap) ∧
    ∃ (q : Nat) (D : Array Value), w' = Go.Sort.putRow cellOf (Go.Sort.ahead w q) blk 0 D ∧ D.size = n * sz ∧ D.toList.take ((n - 1) * sz) = d.toList.take (i * sz) ++ d.toList.drop ((i + 1) * sz)
theorem avr_i64 {w : World} {ok : Nat → Prop} {n : Int} {v : Value} {g : Gh} (h : AVRg g w ok (.val (.int .i64) n) v) : v = .int .i64 n := by
  obtain ⟨cs, e, h⟩ := h
  have : cs = [.int .i64 n] := Foot.now h
  rw [e, this]; rfl
theorem delete_said {P : Program} {f e i : Nat} {t : Ty} (hs : Stands P f) (hc : DelC P f t.kd.sz) {u : List t.den} (hi : i < u.length) :
    SaidX P [(.slice e t, .own 0)] f [.lend (.slice e t) u (.own 0), .val (.int .i64) (i : Int), .val (.int .i64) ((i + 1 : Nat) : Int)] [⟨.slice e t, u.eraseIdx i⟩] := by
  refine ⟨hs, fun w ok vs gm hav hlo hsep => ?_⟩
  obtain ⟨v, vs', rfl, ⟨_, cs, rfl, hv, hown⟩, v1, vs1, rfl, h1, v2, vs2, rfl, h2, hvs'⟩ := hav
  have hvs' : vs2 = [] := hvs'
  subst hvs'
  have h1 := avr_i64 h1
  have h2 := avr_i64 h2
  subst h1
  subst h2
  simp only [VR] at hv
  obtain ⟨hcs, _⟩ := hv
  subst hcs
  obtain ⟨hσ, hS⟩ := hown
  have hR := Kd.S_R hS
  obtain ⟨h0, inner, ho, hr⟩ := hR
  have harg : valOf (.slice e t) [gm.ρ 0] = gm.ρ 0 := rfl
  rw [harg]
  have hX : ∀ b, (gm.ρ 0).ownBlock = some b → LentS gm (avIds [.lend (.slice e t) u (.own 0), .val (.int .i64) (i : Int), .val (.int .i64) ((i + 1 : Nat) : Int)]) b := fun b hb => ⟨0, List.mem_singleton.2 rfl, h0 b hb⟩
  have hlt : ∀ k, gm.S 0 k → k < w.heap.size := (hlo.1 0 (List.mem_singleton.2 rfl)).2
  have ho2 := ho
  rcases ho2.2 with ⟨hnil, hn⟩ | ⟨blk, cap, cur, e1, hbase, hg, q1, q2, q3, q4⟩
  · omega
  have hbl : blk < w.heap.size := by
    rcases Nat.lt_or_ge blk w.heap.size with h | h
    · exact h
    · rw [Array.getElem?_eq_none h] at hg; cases hg
  have hle : u.length * t.kd.sz ≤ cap * t.kd.sz := Nat.mul_le_mul_right _ q1
  have hil : inner.length = u.length * t.kd.sz := ho.1
  have hH : Go.Sort.Holds cellOf w blk 0 inner.toArray := by
    intro j hj
    have hj : j < inner.length := by simpa using hj
    refine ⟨?_, by simp [World.frozen?, hg]⟩
    have h3 : (cur.toList.take (u.length * t.kd.sz))[j]? = inner[j]? := by rw [q4]
    rw [List.getElem?_take, if_pos (by omega), Array.getElem?_toList] at h3
    rw [getElem!_pos _ j (by simpa using hj)]
    simp only [World.cell?, hg, Nat.zero_add]
    rw [List.getElem?_eq_getElem hj] at h3
    simpa [cellOf] using h3
  have h1c : ∀ v ∈ inner.toArray.toList, v.oneCell' = true := by
    intro v hv
    obtain ⟨j, hj, rfl⟩ := List.getElem_of_mem (show v ∈ inner from by simpa using hv)
    have hsz : 0 < t.kd.sz := by
      rcases Nat.eq_zero_or_pos t.kd.sz with h | h
      · rw [h, Nat.mul_zero] at hil; omega
      · exact h
    have hjl : j / t.kd.sz < u.length := Nat.div_lt_of_lt_mul (by rw [Nat.mul_comm, ← hil]; exact hj)
    obtain ⟨x, hx⟩ : ∃ x, u[j / t.kd.sz]? = some x := ⟨_, List.getElem?_eq_getElem hjl⟩
    have hM := t.kd.K_of_M (hr.2 _ _ hx)
    refine t.kd.K_one hM _ (List.mem_iff_getElem?.2 ⟨j % t.kd.sz, ?_⟩)
    have hm : j % t.kd.sz < t.kd.sz := Nat.mod_lt _ hsz
    rw [List.getElem?_take, if_pos hm, List.getElem?_drop, show j / t.kd.sz * t.kd.sz + j % t.kd.sz = j from by rw [Nat.mul_comm]; exact Nat.div_add_mod j _]
    exact List.getElem?_eq_getElem hj
  rw [e1]
  refine Calls.mono (hc blk cap u.length i inner.toArray w hH (by simpa using hil) h1c hi q1 q2 hbl) ?_
  rintro e2 w' ⟨rfl, q, D, rfl, hD, htk⟩
  have hcur : (Go.Sort.putRow cellOf (Go.Sort.ahead w q) blk 0 D).heap[blk]? = some (.cells (Go.Sort.putCells cellOf 0 D cur) e (0, 0)) := by
    simp [Go.Sort.putRow, Go.Sort.mapBlock, Go.Sort.ahead, Array.getElem?_modify, hg, Go.Sort.onCells]
  have hoth : ∀ k, k ≠ blk → k < w.heap.size → (Go.Sort.putRow cellOf (Go.Sort.ahead w q) blk 0 D).heap[k]? = w.heap[k]? := by
    intro k hk _
    simp [Go.Sort.putRow, Go.Sort.mapBlock, Go.Sort.ahead, Array.getElem?_modify, hk.symm]
  have hsize : w.heap.size ≤ (Go.Sort.putRow cellOf (Go.Sort.ahead w q) blk 0 D).heap.size := by simp [Go.Sort.putRow, Go.Sort.mapBlock, Go.Sort.ahead]
  have hpc : ∀ m, m ≤ D.size → (Go.Sort.putCells cellOf 0 D cur).toList.take m = D.toList.take m := by
    intro m hm
    have hq3 : cur.size = cap * t.kd.sz := q3
    apply List.ext_getElem?
    intro j
    rw [List.getElem?_take, List.getElem?_take]
    by_cases hj : j < m
    · rw [if_pos hj, if_pos hj, Array.getElem?_toList, Array.getElem?_toList]
      have h5 : j < cur.size := by omega
      have h6 : j < D.size := by omega
      simp [Go.Sort.putCells, h5, h6, cellOf]
    · rw [if_neg hj, if_neg hj]
  have hnew : Kd.S t.kd e (Go.Sort.putRow cellOf (Go.Sort.ahead w q) blk 0 D) 0 (gm.S 0) (.slice (some ⟨blk, 0, none⟩) (u.length - 1) cap) (u.eraseIdx i) := by
    refine row_del (i := i) (cur := cur) (cur' := Go.Sort.putCells cellOf 0 D cur) (w := w) (by rw [← e1]; exact hS) hi hg hoth hcur (by simp [Go.Sort.putCells]) ?_
    rw [hpc _ (by rw [hD]; exact Nat.mul_le_mul_right _ (by omega)), htk, q4]
  refine ⟨_, { gm with ρ := fun _ => .slice (some ⟨blk, 0, none⟩) (u.length - 1) cap }, [_], rfl, rfl, rfl, rfl, hsize, fun k hk hnk _ => hoth k (fun e3 => hnk (by rw [e3]; exact hX blk (by rw [e1]; rfl))) hk, rfl, ⟨rfl, [_], [], rfl, ?_, ⟨hσ, hnew⟩, rfl⟩, fun j hj => ?_, fun i hi j hj hne => ?_⟩
  · simp only [VR]
    trivial
  · have := List.mem_singleton.1 hj
    subst this
    exact ⟨rfl, fun k hk => ⟨.inl ⟨0, List.mem_singleton.2 rfl, hk⟩, Nat.lt_of_lt_of_le (hlt k hk) hsize⟩⟩
  · exact (hne ((List.mem_singleton.1 hi).trans (List.mem_singleton.1 hj).symm)).elim
end Go.Proofs.YtcmjbplnjjdcdaaGreat.Ref

namespace Go.Proofs.YtcmjbplnjjdcdaaGreat.Ref
open Go.RowKit Go.Proofs.YtcmjbplnjjdcdaaGreatW.PrintWords Go.Proofs.YtcmjbplnjjdcdaaGreatW.PrintLast

/-- 'clear' of one element. -/
theorem run_clear_one {P : Program} (w : World) (t e ty : TypeId) (z : Value) (ht : P.underlying t = some (.slice e)) (hv : ∀ w, (zeroValue e).run P w = .ok z w) (h1 : ∀ v ∈ z.cells.toList, v.oneCell' = true) (b o c : Nat)
    (hc : ∀ j, j < z.cells.size → (w.cell? ⟨b, o + j, none⟩).isSome = true) (hf : ∀ j, j < z.cells.size → w.frozen? ⟨b, o + j, none⟩ = false) :
    (Builtin.clear_ #[t] ty #[.slice (some ⟨b, o, none⟩) 1 c]).run P w = .ok (.tuple #[]) (w.setCells b o z.cells.toList) := by
  have hzc : (Builtin.zeroCells z.cells 1).toList = z.cells.toList := by
    apply List.ext_getElem
    · simp [Builtin.zeroCells]
    · intro i h1 h2
      have h2 : i < z.cells.size := by simpa using h2
      simp [Builtin.zeroCells, Nat.mod_eq_of_lt h2, h2]
  have hst := run_storeCells_cells (P := P) b o z.cells.toList 0 w (by simpa using hc) (by simpa using hf) h1
  simp only [Nat.add_zero] at hst
  simp [Builtin.clear_, run_underlying ht, hv, hzc, hst]
theorem idxFrom_in {α : Type} {p : α → Bool} : ∀ (l : List α) (k : Nat), ¬ (idxFrom p k l < 0) → ∃ j, j < l.length ∧ idxFrom p k l = ((k + j : Nat) : Int)
  | [], k, h => (h (by show (-1 : Int) < 0; decide)).elim
  | x :: l, k, h => by
    cases hp : p x with
    | true => exact ⟨0, by simp, by unfold idxFrom; rw [hp]; rfl⟩
    | false =>
      have e : idxFrom p k (x :: l) = idxFrom p (k + 1) l := by
        show cond (p x) _ _ = _
        rw [hp]
        rfl
      rw [e] at h ⊢
      obtain ⟨j, h1, h2⟩ := idxFrom_in l (k + 1) h
      exact ⟨j + 1, by simp; omega, by rw [h2]; congr 1; omega⟩
theorem find_in {l : List TEntry} {s : ByteArray} (h : decide (findEntry l s < 0) = false) : ∃ j : Nat, j < l.length ∧ findEntry l s = (j : Int) := by
  obtain ⟨j, h1, h2⟩ := idxFrom_in l 0 (of_decide_eq_false h)
  exact ⟨j, h1, by rw [Nat.zero_add] at h2; exact h2⟩
def dropE (l : List TEntry) (s : ByteArray) : List TEntry × Bool := cond (!areEntries l) (l, false) (cond (decide (findEntry l s < 0)) (l, false) (l.eraseIdx (findEntry l s).toNat, true))
end Go.Proofs.YtcmjbplnjjdcdaaGreat.Ref

namespace Go.Proofs.YtcmjbplnjjdcdaaGreat.Ref
open Go.RowKit Go.Proofs.YtcmjbplnjjdcdaaGreatW.PrintWords Go.Proofs.YtcmjbplnjjdcdaaGreatW.PrintLast

theorem alloc_row (w : World) (o : Obj) : (w.alloc o).heap[w.heap.size]? = some o := by
  show (w.heap.push o)[w.heap.size]? = _
  simp
theorem alloc_old (w : World) (o : Obj) {k : Nat} (hk : k < w.heap.size) : (w.alloc o).heap[k]? = w.heap[k]? := by
  show (w.heap.push o)[k]? = _
  rw [Array.getElem?_push, if_neg (by omega)]
theorem alloc_size (w : World) (o : Obj) : w.heap.size ≤ (w.alloc o).heap.size := by
  show _ ≤ (w.heap.push o).size
  simp
theorem run_copy_wide {P : Program} (w : World) (dT sT ty elem : TypeId) (sz b o dLen dCap : Nat) (a : Addr) (sLen sCap : Nat) (cs : List Value)
    (hu : P.underlying dT = some (.slice elem)) (hs : (P.info? elem).map (·.size) = some sz) (hn : cs.length = Nat.min sLen dLen * sz)
    (hsrc : ∀ j v, cs[j]? = some v → w.cell? (a.add j) = some v) (hc : ∀ j, j < cs.length → (w.cell? ⟨b, o + j, none⟩).isSome = true) (hf : ∀ j, j < cs.length → w.frozen? ⟨b, o + j, none⟩ = false) (h1 : ∀ v ∈ cs, v.oneCell' = true) :
    (Builtin.copy_ #[dT, sT] ty #[.slice (some ⟨b, o, none⟩) dLen dCap, .slice (some a) sLen sCap]).run P w = .ok (goInt (Nat.min sLen dLen)) (w.setCells b o cs) := by
  have hfc := run_firstCells_some (P := P) w sz (Nat.min sLen dLen) a sLen sCap cs hn hsrc
  have hst := run_storeCells_cells (P := P) b o cs 0 w (by simpa using hc) (by simpa using hf) h1
  simp only [Nat.add_zero] at hst
  cases hq : P.info? elem with
  | none => simp [hq] at hs
  | some i =>
    have hi : i.size = sz := by simpa [hq] using hs
    simp [Builtin.copy_, run_underlying hu, Builtin.lenOf, sizeOf, typeInfo, hq, hi, hfc, hst]
theorem chunk_ins {inner vs : List Value} {sz n i j : Nat} (hl : inner.length = n * sz) (hv : vs.length = sz) (hi : i ≤ n) (hj : j < n + 1) :
    ((inner.take (i * sz) ++ vs ++ inner.drop (i * sz)).drop (j * sz)).take sz = if j = i then vs else (inner.drop ((if j < i then j else j - 1) * sz)).take sz := by
  have h3 : i * sz ≤ n * sz := Nat.mul_le_mul_right sz hi
  have hlt : (inner.take (i * sz)).length = i * sz := by rw [List.length_take]; omega
  apply List.ext_getElem?
  intro t
  rw [List.getElem?_take, List.getElem?_drop]
  by_cases ht : t < sz
  · rw [if_pos ht, List.append_assoc, List.getElem?_append, hlt]
    by_cases hji : j < i
    · have h4 : (j + 1) * sz ≤ i * sz := Nat.mul_le_mul_right sz hji
      have h2 : (j + 1) * sz = j * sz + sz := Nat.succ_mul j sz
      rw [if_pos (by omega), if_neg (by omega), if_pos hji, List.getElem?_take, if_pos (by omega), List.getElem?_take, if_pos ht, List.getElem?_drop]
    · have h4 : i * sz ≤ j * sz := Nat.mul_le_mul_right sz (by omega)
      rw [if_neg (by omega), List.getElem?_append, hv]
      by_cases e : j = i
      · subst e
        rw [if_pos (by omega), if_pos rfl]
        congr 1
        omega
      · have h5 : (i + 1) * sz ≤ j * sz := Nat.mul_le_mul_right sz (by omega)
        have h6 : (i + 1) * sz = i * sz + sz := Nat.succ_mul i sz
        have h7 : j * sz = (j - 1) * sz + sz := by rw [← Nat.succ_mul]; congr 1; omega
        rw [if_neg (by omega), if_neg e, if_neg hji, List.getElem?_drop, List.getElem?_take, if_pos ht, List.getElem?_drop]
        congr 1
        omega
  · rw [if_neg ht]
    by_cases e : j = i
    · rw [if_pos e, List.getElem?_eq_none (by omega)]
    · rw [if_neg e, List.getElem?_take, if_neg ht]
/-- What the library's Insert does to a row of elements of size sz, one element put in. -/
def InsC (P : Program) (f e sz : Nat) : Prop := ∀ (v : Value) (n i vb vc : Nat) (cs vs : List Value) (w : World), w.ownsRow 0 e sz v n cs → v.ownBlock ≠ some vb → w.ownsRow 0 e sz (.slice (some ⟨vb, 0, none⟩) 1 vc) 1 vs →
  (∀ u ∈ cs, u.oneCell' = true) → (∀ u ∈ vs, u.oneCell' = true) → i ≤ n → n ≤ 549755813888 →
  Calls P f #[v, .int .i64 i, .slice (some ⟨vb, 0, none⟩) 1 vc] w fun e' w' => ∃ v', e' = .returned v' ∧ (v'.ownBlock = v.ownBlock ∨ ∀ k, v'.ownBlock = some k → w.heap.size ≤ k) ∧ v'.oneCell' = true ∧ w.grownBy w' v.ownBlock ∧
    w'.ownsRow 0 e sz v' (n + 1) (cs.take (i * sz) ++ vs ++ cs.drop (i * sz))
theorem cells_one {α : Type} {d : Kd α} {w : World} {base : Nat} {ok : Nat → Prop} {e : Nat} {v : Value} {u : List α} {inner : List Value} (ho : inner.length = u.length * d.sz) (hr : Reps (d.M w base ok) d.sz u inner) : ∀ x ∈ inner, x.oneCell' = true := by
  intro x hx
  obtain ⟨j, hj, rfl⟩ := List.getElem_of_mem hx
  have hsz : 0 < d.sz := by
    rcases Nat.eq_zero_or_pos d.sz with h | h
    · rw [h, Nat.mul_zero] at ho; omega
    · exact h
  have hjl : j / d.sz < u.length := Nat.div_lt_of_lt_mul (by rw [Nat.mul_comm, ← ho]; exact hj)
  obtain ⟨y, hy⟩ : ∃ y, u[j / d.sz]? = some y := ⟨_, List.getElem?_eq_getElem hjl⟩
  refine d.K_one (d.K_of_M (hr.2 _ _ hy)) _ (List.mem_iff_getElem?.2 ⟨j % d.sz, ?_⟩)
  have hm : j % d.sz < d.sz := Nat.mod_lt _ hsz
  rw [List.getElem?_take, if_pos hm, List.getElem?_drop, show j / d.sz * d.sz + j % d.sz = j from by rw [Nat.mul_comm]; exact Nat.div_add_mod j _]
  exact List.getElem?_eq_getElem hj
theorem put_row {w : World} {b q e : Nat} {cur D : Array Value} (hg : w.heap[b]? = some (.cells cur e (0, 0))) (hs : D.size = cur.size) :
    (Go.Sort.putRow cellOf (Go.Sort.ahead w q) b 0 D).heap[b]? = some (.cells D e (0, 0)) ∧ w.grownBy (Go.Sort.putRow cellOf (Go.Sort.ahead w q) b 0 D) (some b) := by
  refine ⟨?_, rfl, rfl, rfl, by simp [Go.Sort.putRow, Go.Sort.mapBlock, Go.Sort.ahead], fun k _ hk => ?_⟩
  · have e1 : Go.Sort.putCells cellOf 0 D cur = D := by
      apply Array.ext_getElem?
      intro j
      by_cases hj : j < D.size
      · have h5 : j < cur.size := by omega
        simp [Go.Sort.putCells, h5, hj, cellOf]
      · have h5 : ¬ j < cur.size := by omega
        rw [Array.getElem?_eq_none (by simp [Go.Sort.putCells]; omega), Array.getElem?_eq_none (by omega)]
    simp [Go.Sort.putRow, Go.Sort.mapBlock, Go.Sort.ahead, Array.getElem?_modify, hg, Go.Sort.onCells, e1]
  · have : b ≠ k := fun e3 => hk (by rw [e3])
    simp [Go.Sort.putRow, Go.Sort.mapBlock, Go.Sort.ahead, Array.getElem?_modify, this]
theorem holds_cells {w : World} {b e : Nat} {cur : Array Value} (hg : w.heap[b]? = some (.cells cur e (0, 0))) : Go.Sort.Holds cellOf w b 0 cur := by
  intro j hj
  refine ⟨?_, by simp [World.frozen?, hg]⟩
  simp [World.cell?, hg, cellOf, hj]
theorem set_lay {w : World} {b : Nat} {d : Array Value} {xs : List Value} {k : Nat} (hk : k + xs.length ≤ d.size) : (Go.Sort.putRow cellOf w b 0 d).setCells b k xs = Go.Sort.putRow cellOf w b 0 (Go.Lib.lay d k xs) := by
  have := Go.Lib.putRow_setCells cellOf w b 0 xs d k hk
  rw [show xs.map cellOf = xs from List.map_id' xs, Nat.zero_add] at this
  exact this
theorem lay_at {d : Array Value} {k : Nat} {xs : List Value} (hk : k + xs.length ≤ d.size) (j : Nat) : (Go.Lib.lay d k xs)[j]? = if k ≤ j ∧ j < k + xs.length then xs[j - k]? else d[j]? := Go.Lib.lay_get? xs d k j hk
/-- One element written in between. -/
theorem lay_ins {d : Array Value} {cs vs : List Value} {sz n i : Nat} (hn : (n + 1) * sz ≤ d.size) (hc : cs.length = n * sz) (hv : vs.length = sz) (hi : i ≤ n) (hd : d.toList.take (i * sz) = cs.take (i * sz)) :
    (Go.Lib.lay (Go.Lib.lay d ((i + 1) * sz) (cs.drop (i * sz))) (i * sz) vs).toList.take ((n + 1) * sz) = cs.take (i * sz) ++ vs ++ cs.drop (i * sz) ∧
    (Go.Lib.lay (Go.Lib.lay d (i * sz) vs) ((i + 1) * sz) (cs.drop (i * sz))).toList.take ((n + 1) * sz) = cs.take (i * sz) ++ vs ++ cs.drop (i * sz) := by
  have h3 : i * sz ≤ n * sz := Nat.mul_le_mul_right sz hi
  have h1 : (i + 1) * sz = i * sz + sz := Nat.succ_mul i sz
  have h2 : (n + 1) * sz = n * sz + sz := Nat.succ_mul n sz
  have hlt : (cs.take (i * sz)).length = i * sz := by rw [List.length_take]; omega
  have hld : (cs.drop (i * sz)).length = n * sz - i * sz := by rw [List.length_drop]; omega
  have hd2 : ∀ t, t < i * sz → d[t]? = cs[t]? := by
    intro t ht
    have : (d.toList.take (i * sz))[t]? = (cs.take (i * sz))[t]? := by rw [hd]
    rw [List.getElem?_take, if_pos ht, List.getElem?_take, if_pos ht, Array.getElem?_toList] at this
    exact this
  have rhs : ∀ t, t < (n + 1) * sz → (cs.take (i * sz) ++ vs ++ cs.drop (i * sz))[t]? = if t < i * sz then cs[t]? else if t < (i + 1) * sz then vs[t - i * sz]? else (cs.drop (i * sz))[t - (i + 1) * sz]? := by
    intro t ht
    rw [List.append_assoc, List.getElem?_append, hlt]
    by_cases c1 : t < i * sz
    · rw [if_pos c1, if_pos c1, List.getElem?_take, if_pos c1]
    · rw [if_neg c1, if_neg c1, List.getElem?_append, hv]
      by_cases c2 : t < (i + 1) * sz
      · rw [if_pos (by omega), if_pos c2]
      · rw [if_neg (by omega), if_neg c2]
        congr 1
        omega
  have lr : (cs.take (i * sz) ++ vs ++ cs.drop (i * sz)).length = (n + 1) * sz := by
    rw [List.length_append, List.length_append, hlt, hv, hld]
    omega
  constructor
  · apply List.ext_getElem?
    intro t
    rw [List.getElem?_take]
    by_cases ht : t < (n + 1) * sz
    · rw [if_pos ht, rhs t ht, Array.getElem?_toList, lay_at (by rw [Go.Lib.lay_size]; omega), lay_at (by omega)]
      by_cases c1 : t < i * sz
      · rw [if_pos c1, if_neg (by omega), if_neg (by omega), hd2 t c1]
      · rw [if_neg c1]
        by_cases c2 : t < (i + 1) * sz
        · rw [if_pos c2, if_pos (by omega)]
        · rw [if_neg c2, if_neg (by omega), if_pos (by omega)]
    · rw [if_neg ht, List.getElem?_eq_none (by omega)]
  · apply List.ext_getElem?
    intro t
    rw [List.getElem?_take]
    by_cases ht : t < (n + 1) * sz
    · rw [if_pos ht, rhs t ht, Array.getElem?_toList, lay_at (by rw [Go.Lib.lay_size]; omega), lay_at (by omega)]
      by_cases c1 : t < i * sz
      · rw [if_pos c1, if_neg (by omega), if_neg (by omega), hd2 t c1]
      · rw [if_neg c1]
        by_cases c2 : t < (i + 1) * sz
        · rw [if_pos c2, if_neg (by omega), if_pos (by omega)]
        · rw [if_neg c2, if_pos (by omega)]
    · rw [if_neg ht, List.getElem?_eq_none (by omega)]
theorem row_ins {α : Type} {d : Kd α} {e i : Nat} {w w' : World} {ok0 ok1 ok' : Nat → Prop} {v v1 v' : Value} {xs : List α} {x : α} {cs vs : List Value}
    (h : Kd.S d e w 0 ok0 v xs) (h1 : Kd.R d e w 0 ok1 v1 [x]) (hdis : ∀ k, ok0 k → ¬ ok1 k) (hcs : w.ownsRow 0 e d.sz v xs.length cs) (hvs : w.ownsRow 0 e d.sz v1 1 vs) (hi : i ≤ xs.length)
    (hb : v'.ownBlock = v.ownBlock ∨ ∀ k, v'.ownBlock = some k → w.heap.size ≤ k) (hg : w.grownBy w' v.ownBlock) (hown : w'.ownsRow 0 e d.sz v' (xs.length + 1) (cs.take (i * d.sz) ++ vs ++ cs.drop (i * d.sz)))
    (hok : ∀ k, (ok0 k ∨ ok1 k) → k < w.heap.size → ok' k) (hv' : ∀ k, v'.ownBlock = some k → ok' k) :
    Kd.S d e w' 0 ok' v' (xs.insertIdx i x) := by
  classical
  obtain ⟨f, h⟩ := h
  have hv0 := h.1
  obtain ⟨_, inner, ho, hr⟩ := Kd.R_bound h
  obtain ⟨_, inner1, ho1, hr1⟩ := Kd.R_bound h1
  rw [List.length_zipIdx] at ho
  have same : ∀ {v : Value} {n : Nat} {a b : List Value}, w.ownsRow 0 e d.sz v n a → w.ownsRow 0 e d.sz v n b → a = b := by
    intro v n a b ha hb
    rcases ha.2 with ⟨e1, e2⟩ | ⟨g, cap, cur, e1, _, hg1, _, _, _, ht⟩
    · have ha1 := ha.1
      have hb1 := hb.1
      rw [e2, Nat.zero_mul] at ha1 hb1
      rw [List.length_eq_zero_iff.1 ha1, List.length_eq_zero_iff.1 hb1]
    · rcases hb.2 with ⟨e2, _⟩ | ⟨g', cap', cur', e2, _, hg2, _, _, _, ht'⟩
      · rw [e1] at e2; cases e2
      · rw [e1] at e2
        injection e2 with e2 _ _
        injection e2 with e2
        injection e2 with e2
        subst e2
        rw [hg1] at hg2
        injection hg2 with hg2
        injection hg2 with hg2
        rw [← ht, ← ht', hg2]
  have ei : inner = cs := same ho hcs
  subst ei
  have ho1' : w.ownsRow 0 e d.sz v1 1 inner1 := ho1
  have ei1 : inner1 = vs := same ho1' hvs
  subst ei1
  have hl : (xs.insertIdx i x).length = xs.length + 1 := List.length_insertIdx_of_le_length hi x
  have hil : inner.length = xs.length * d.sz := ho.1
  have hil1 : inner1.length = d.sz := by have := ho1'.1; omega
  refine ⟨fun k => if ok1 k then i else if f k < i then f k else f k + 1, hv', inner.take (i * d.sz) ++ inner1 ++ inner.drop (i * d.sz), by rw [List.length_zipIdx, hl]; exact hown, by rw [List.length_zipIdx, hl]; exact hown.1, fun j p hj => ?_⟩
  obtain ⟨y, hy, rfl⟩ := zipIdx_at hj
  have hjl : j < xs.length + 1 := by rw [← hl]; exact (List.getElem?_eq_some_iff.1 hy).1
  show d.M w' 0 _ y _
  rw [show ((inner.take (i * d.sz) ++ inner1 ++ inner.drop (i * d.sz)).drop (j * (Kd.tag _ d).sz)).take (Kd.tag _ d).sz = _ from chunk_ins (sz := d.sz) hil hil1 hi hjl]
  have heap : ∀ k, k < w.heap.size → some k ≠ v.ownBlock → w'.heap[k]? = w.heap[k]? := fun k h1 h2 => hg.block k h1 h2
  have apart : ∀ k, k < w.heap.size → some k ≠ v.ownBlock → some k ≠ v'.ownBlock := by
    intro k h1 h2 h3
    rcases hb with hb | hb
    · rw [hb] at h3; exact h2 h3
    · have := hb k h3.symm; omega
  by_cases e : j = i
  · subst e
    rw [if_pos rfl]
    rw [List.getElem?_insertIdx_self, if_pos hi] at hy
    injection hy with hy
    subst hy
    have hM := hr1.2 0 x rfl
    rw [Nat.zero_mul, List.drop_zero, List.take_of_length_le (by omega)] at hM
    have ne : ∀ k, ok1 k → some k ≠ v.ownBlock := fun k h2 h3 => hdis k (hv0 k h3.symm) h2
    refine d.M_mono (fun k hk => ?_) (d.M_move (w1 := w') (fun k hk => ?_) hM)
    · obtain ⟨⟨hk1, hk2, hk3, _⟩, hk4⟩ := hk
      refine ⟨⟨hok k (.inr hk1) hk3, apart k hk3 (ne k hk1)⟩, ?_⟩
      show (if ok1 k then j else _) = 0 + j
      rw [if_pos hk1, Nat.zero_add]
    · obtain ⟨⟨hk1, hk2, hk3, _⟩, hk4⟩ := hk
      exact heap k hk3 (ne k hk1)
  · rw [if_neg e]
    have hxy : xs[if j < i then j else j - 1]? = some y := by
      by_cases c : j < i
      · rw [List.getElem?_insertIdx_of_lt c] at hy
        rw [if_pos c]; exact hy
      · rw [List.getElem?_insertIdx_of_gt (by omega)] at hy
        rw [if_neg c]; exact hy
    have hM := hr.2 (if j < i then j else j - 1) (y, if j < i then j else j - 1) (Kd.zip_at hxy)
    have hM : d.M w 0 _ y ((inner.drop ((if j < i then j else j - 1) * d.sz)).take d.sz) := hM
    refine d.M_mono (fun k hk => ?_) (d.M_move (w1 := w') (fun k hk => ?_) hM)
    · obtain ⟨⟨⟨hk1, hk2, hk3, _⟩, hk4⟩, hk5⟩ := hk
      refine ⟨⟨hok k (.inl hk1) hk3, apart k hk3 hk4⟩, ?_⟩
      have hk5 : f k = if j < i then j else j - 1 := hk5
      show (if ok1 k then i else if f k < i then f k else f k + 1) = 0 + j
      rw [Nat.zero_add, if_neg (hdis k hk1)]
      by_cases c : j < i
      · rw [if_pos c] at hk5
        rw [if_pos (by omega), hk5]
      · rw [if_neg c] at hk5
        rw [if_neg (by omega), hk5]
        omega
    · obtain ⟨⟨⟨hk1, hk2, hk3, _⟩, hk4⟩, hk5⟩ := hk
      exact heap k hk3 hk4
theorem insert_said {P : Program} {f e i : Nat} {t : Ty} (hs : Stands P f) (hc : InsC P f e t.kd.sz) {u : List t.den} {x : t.den} (hi : i ≤ u.length) (hbig : u.length ≤ 549755813888) :
    SaidX P [(.slice e t, .own 0)] f [.lend (.slice e t) u (.own 0), .val (.int .i64) (i : Int), .lend (.slice e t) [x] (.own 1)] [⟨.slice e t, u.insertIdx i x⟩] := by
  refine ⟨hs, fun w ok vs gm hav hlo hsep => ?_⟩
  obtain ⟨v, vs', rfl, ⟨_, cs, rfl, hv, hown⟩, v1, vs1, rfl, h1, v2, vs2, rfl, ⟨_, cs2, rfl, hv2, hown2⟩, hvs'⟩ := hav
  have hvs' : vs2 = [] := hvs'
  subst hvs'
  have h1 := avr_i64 h1
  subst h1
  simp only [VR] at hv hv2
  obtain ⟨hcs, _⟩ := hv
  obtain ⟨hcs2, _⟩ := hv2
  subst hcs
  subst hcs2
  obtain ⟨hσ, hS⟩ := hown
  obtain ⟨hσ2, hS2⟩ := hown2
  have hS2 : Kd.S t.kd e w 0 (gm.S 1) (gm.ρ 1) [x] := hS2
  have hR := Kd.S_R hS
  have hR2 := Kd.S_R hS2
  obtain ⟨h0, inner, ho, hr⟩ := id hR
  obtain ⟨h02, inner2, ho2, hr2⟩ := id hR2
  have ids : avIds [.lend (.slice e t) u (.own 0), .val (.int .i64) (i : Int), .lend (.slice e t) [x] (.own 1)] = [0, 1] := rfl
  have hdis : ∀ k, gm.S 0 k → ¬ gm.S 1 k := hlo.2 0 (by rw [ids]; simp) 1 (by rw [ids]; simp) (by omega)
  have hlt : ∀ k, gm.S 0 k → k < w.heap.size := (hlo.1 0 (by rw [ids]; simp)).2
  have hlt1 : ∀ k, gm.S 1 k → k < w.heap.size := (hlo.1 1 (by rw [ids]; simp)).2
  rcases ho2.2 with ⟨_, hn⟩ | ⟨vb, vc, curv, e1, hbase, hgv, q1, q2, q3, q4⟩
  · cases hn
  have e1 : gm.ρ 1 = .slice (some ⟨vb, 0, none⟩) 1 vc := e1
  have harg : (valOf (.slice e t) [gm.ρ 0] :: .int .i64 (i : Int) :: valOf (.slice e t) [gm.ρ 1] :: []).toArray = #[gm.ρ 0, .int .i64 (i : Int), .slice (some ⟨vb, 0, none⟩) 1 vc] := by
    show #[gm.ρ 0, .int .i64 (i : Int), gm.ρ 1] = _
    rw [e1]
  rw [harg]
  have hvbS : gm.S 1 vb := h02 vb (by rw [e1]; rfl)
  have ho2' : w.ownsRow 0 e t.kd.sz (.slice (some ⟨vb, 0, none⟩) 1 vc) 1 inner2 := by rw [← e1]; exact ho2
  refine Calls.mono (hc (gm.ρ 0) u.length i vb vc inner inner2 w ho (fun h => hdis vb (h0 vb h) hvbS) ho2' (cells_one (v := gm.ρ 0) (e := e) ho.1 hr) (cells_one (v := gm.ρ 1) (e := e) ho2.1 hr2) hi hbig) ?_
  rintro e2 w' ⟨v', rfl, hb, hone, hgr, hown'⟩
  have hvlt : ∀ k, v'.ownBlock = some k → k < w'.heap.size := fun k hk => own_lt hown' k hk
  have hnew : Kd.S t.kd e w' 0 (fun k => (LentS gm [0, 1] k ∨ w.heap.size ≤ k) ∧ k < w'.heap.size) v' (u.insertIdx i x) := by
    refine row_ins (i := i) hS hR2 hdis ho ho2 hi hb hgr hown' (fun k hk hk2 => ?_) (fun k hk => ?_)
    · refine ⟨.inl ?_, Nat.lt_of_lt_of_le hk2 hgr.size⟩
      rcases hk with hk | hk
      · exact ⟨0, by simp, hk⟩
      · exact ⟨1, by simp, hk⟩
    · refine ⟨?_, hvlt k hk⟩
      rcases hb with hb | hb
      · rw [hb] at hk; exact .inl ⟨0, by simp, h0 k hk⟩
      · exact .inr (hb k hk)
  refine ⟨_, { gm with ρ := fun _ => v', S := fun _ k => (LentS gm [0, 1] k ∨ w.heap.size ≤ k) ∧ k < w'.heap.size }, [v'], rfl, hgr.os, hgr.tape, hgr.output, hgr.size, fun k hk hnk _ => hgr.block k hk (fun e3 => hnk ?_), rfl, ⟨rfl, [v'], [], rfl, ?_, ⟨hσ, hnew⟩, rfl⟩, fun j hj => ⟨hone, fun k hk => hk⟩, fun i hi j hj hne => ?_⟩
  · rw [ids]
    exact ⟨0, by simp, h0 k e3.symm⟩
  · simp only [VR]
    trivial
  · exact (hne ((List.mem_singleton.1 hi).trans (List.mem_singleton.1 hj).symm)).elim
end Go.Proofs.YtcmjbplnjjdcdaaGreat.Ref

namespace Go.Proofs.YtcmjbplnjjdcdaaGreat.Ref
open Go.RowKit Go.Proofs.YtcmjbplnjjdcdaaGreatW.PrintWords Go.Proofs.YtcmjbplnjjdcdaaGreatW.PrintLast

theorem ins_eq {α : Type} (x : α) : ∀ (l : List α) (i : Nat), i ≤ l.length → l.insertIdx i x = l.take i ++ x :: l.drop i
  | [], 0, _ => rfl
  | [], i + 1, h => by simp at h
  | y :: l, 0, _ => rfl
  | y :: l, i + 1, h => by
    rw [List.insertIdx_succ_cons, ins_eq x l i (by simpa using h)]
    rfl
theorem set_eq {α : Type} (x : α) : ∀ (l : List α) (i : Nat), i < l.length → l.set i x = l.take i ++ x :: l.drop (i + 1)
  | [], _, h => by simp at h
  | y :: l, 0, _ => rfl
  | y :: l, i + 1, h => by
    show y :: l.set i x = y :: (l.take i ++ x :: l.drop (i + 1))
    rw [set_eq x l i (by simpa using h)]
theorem wEs_mem1 {l : List TEntry} {e : TEntry} (h : e ∈ l) : wE e + 1 ≤ wEs l := by
  induction l with
  | nil => cases h
  | cons x l ih =>
    rw [wEs_cons]
    rcases List.mem_cons.1 h with h | h
    · subst h; omega
    · have := ih h; omega
theorem half_at {i j : Nat} (h : i + j ≤ 4611686018427387904) : IntKind.wrap .i64 ((IntKind.wrap .u64 (IntKind.wrap .i64 ((i : Int) + (j : Int)))) / (2 : Int) ^ 1) = (((i + j) / 2 : Nat) : Int) := by
  have e1 : IntKind.wrap .i64 ((i : Int) + (j : Int)) = ((i + j : Nat) : Int) := by rw [wrap_id (by omega) (by omega)]; omega
  have e2 : IntKind.wrap .u64 ((i + j : Nat) : Int) = ((i + j : Nat) : Int) := by
    rw [IntKind.wrap_u64]
    omega
  have e3 : ((i + j : Nat) : Int) / (2 : Int) ^ 1 = (((i + j) / 2 : Nat) : Int) := by
    rw [show ((2 : Int) ^ 1) = 2 from rfl]
    omega
  rw [e1, e2, e3, wrap_id (by omega) (by omega)]
def bsGo (l : List TEntry) (s : ByteArray) : Nat → Nat → Nat → Nat
  | 0, i, _ => i
  | d + 1, i, j => cond (decide (i < j)) (cond (decide (cmpStr (at' l ((i + j) / 2)).1 s < 0)) (bsGo l s d ((i + j) / 2 + 1) j) (bsGo l s d i ((i + j) / 2))) i
def bsAt (l : List TEntry) (s : ByteArray) : Nat := bsGo l s l.length 0 l.length
def bsHit (l : List TEntry) (s : ByteArray) : Bool := decide (bsAt l s < l.length) && cmpStr (at' l (bsAt l s)).1 s == 0
structure Split (l : List TEntry) (s : ByteArray) (r : Nat) : Prop where
  le : r ≤ l.length
  low : ∀ t, t < r → cmpStr (at' l t).1 s < 0
  high : ∀ t, r ≤ t → t < l.length → ¬ cmpStr (at' l t).1 s < 0
theorem cmp_neg {a b : ByteArray} : cmpStr a b < 0 ↔ Op.bytesLess a.toList b.toList = true := by
  rw [← cmp_lt]
  rcases cmp_three a b with h | h | h <;> rw [h] <;> decide
theorem bsGo_split {l : List TEntry} {s : ByteArray} (h : InOrder l) : ∀ (d i j : Nat), j - i ≤ d → i ≤ j → j ≤ l.length → (∀ t, t < i → cmpStr (at' l t).1 s < 0) → (∀ t, j ≤ t → t < l.length → ¬ cmpStr (at' l t).1 s < 0) → Split l s (bsGo l s d i j)
  | 0, i, j, hd, hij, hj, h1, h2 => by
    have : i = j := by omega
    subst this
    exact ⟨hj, h1, h2⟩
  | d + 1, i, j, hd, hij, hj, h1, h2 => by
    unfold bsGo
    by_cases c : i < j
    · rw [decide_eq_true c, cond_true]
      cases e : decide (cmpStr (at' l ((i + j) / 2)).1 s < 0) with
      | true =>
        rw [cond_true]
        have e := of_decide_eq_true e
        refine bsGo_split h d _ j (by omega) (by omega) hj (fun t ht => ?_) h2
        by_cases et : t = (i + j) / 2
        · rw [et]; exact e
        · exact cmp_neg.2 (less_trans (h.less t ((i + j) / 2) (by omega) (by omega)) (cmp_neg.1 e))
      | false =>
        rw [cond_false]
        have e := of_decide_eq_false e
        refine bsGo_split h d i _ (by omega) (by omega) (by omega) h1 (fun t ht htl hc => ?_)
        by_cases et : t = (i + j) / 2
        · rw [et] at hc; exact e hc
        · exact e (cmp_neg.2 (less_trans (h.less ((i + j) / 2) t (by omega) htl) (cmp_neg.1 hc)))
    · rw [decide_eq_false c, cond_false]
      have : i = j := by omega
      subst this
      exact ⟨hj, h1, h2⟩
theorem bsAt_split {l : List TEntry} (s : ByteArray) (h : InOrder l) : Split l s (bsAt l s) :=
  bsGo_split h l.length 0 l.length (by omega) (by omega) (Nat.le_refl _) (fun t ht => by omega) (fun t h1 h2 => by omega)
theorem putGo_low (e : TEntry) (ys : List TEntry) : ∀ (xs : List TEntry) (o : List TEntry), (∀ x ∈ xs, cmpStr x.1 e.1 < 0) → putGo e (xs ++ ys) (false, o) = putGo e ys (false, o ++ xs)
  | [], o, _ => by rw [List.append_nil]; rfl
  | x :: xs, o, h => by
    have hx := h x (List.mem_cons_self ..)
    have e1 : decide (cmpStr x.1 e.1 ≥ 0) = false := decide_eq_false (by omega)
    have e2 : (cmpStr x.1 e.1 != 0) = true := by rw [bne_iff_ne]; omega
    have e3 : putStep e x (false, o) = (false, o ++ [x]) := by
      unfold putStep putAt
      rw [e1, e2]
      rfl
    show putGo e (xs ++ ys) (putStep e x (false, o)) = _
    rw [e3, putGo_low e ys xs (o ++ [x]) (fun y hy => h y (List.mem_cons_of_mem _ hy)), List.append_assoc]
    rfl
theorem putGo_high (e : TEntry) : ∀ (ys : List TEntry) (o : List TEntry), (∀ y ∈ ys, cmpStr y.1 e.1 ≠ 0) → putGo e ys (true, o) = (true, o ++ ys)
  | [], o, _ => by rw [List.append_nil]; rfl
  | y :: ys, o, h => by
    have e2 : (cmpStr y.1 e.1 != 0) = true := by rw [bne_iff_ne]; exact h y (List.mem_cons_self ..)
    have e3 : putStep e y (true, o) = (true, o ++ [y]) := by
      unfold putStep putAt
      rw [e2]
      cases decide (cmpStr y.1 e.1 ≥ 0) <;> rfl
    show putGo e ys (putStep e y (true, o)) = _
    rw [e3, putGo_high e ys (o ++ [y]) (fun z hz => h z (List.mem_cons_of_mem _ hz)), List.append_assoc]
    rfl
def putAs (l : List TEntry) (e : TEntry) : List TEntry := cond (bsHit l e.1) (l.set (bsAt l e.1) e) (l.insertIdx (bsAt l e.1) e)
theorem at_mem_take {l : List TEntry} {r : Nat} {x : TEntry} (h : x ∈ l.take r) : ∃ t, t < r ∧ t < l.length ∧ at' l t = x := by
  obtain ⟨t, ht, e⟩ := List.getElem_of_mem h
  have h1 : t < r ∧ t < l.length := by rw [List.length_take] at ht; omega
  refine ⟨t, h1.1, h1.2, ?_⟩
  rw [← e, List.getElem_take]
  unfold at'
  rw [List.getD_eq_getElem?_getD, List.getElem?_eq_getElem h1.2]
  rfl
theorem at_mem_drop {l : List TEntry} {r : Nat} {x : TEntry} (h : x ∈ l.drop r) : ∃ t, r ≤ t ∧ t < l.length ∧ at' l t = x := by
  obtain ⟨t, ht, e⟩ := List.getElem_of_mem h
  have h1 : r + t < l.length := by rw [List.length_drop] at ht; omega
  refine ⟨r + t, by omega, h1, ?_⟩
  rw [← e, List.getElem_drop]
  unfold at'
  rw [List.getD_eq_getElem?_getD, List.getElem?_eq_getElem h1]
  rfl
theorem put_as {l : List TEntry} (e : TEntry) (h : InOrder l) : putOut e (putGo e l (false, [])) = putAs l e := by
  have sp := bsAt_split e.1 h
  unfold putAs
  generalize hr : bsAt l e.1 = r at *
  have h1 : putGo e l (false, []) = putGo e (l.drop r) (false, l.take r) := by
    have := putGo_low e (l.drop r) (l.take r) [] (fun x hx => by
      obtain ⟨t, t1, _, t3⟩ := at_mem_take hx
      rw [← t3]
      exact sp.low t t1)
    rw [List.take_append_drop, List.nil_append] at this
    exact this
  rw [h1, ins_eq e l r sp.le]
  by_cases hl : r < l.length
  · have hd : l.drop r = at' l r :: l.drop (r + 1) := drop_cons dE hl
    have hge := sp.high r (Nat.le_refl _) hl
    have hrest : ∀ y ∈ l.drop (r + 1), cmpStr y.1 e.1 ≠ 0 := by
      intro y hy hz
      obtain ⟨t, t1, t2, t3⟩ := at_mem_drop hy
      subst t3
      have hlt := h.less r t (by omega) t2
      have he := eqStr_iff.1 (cmp_zero hz)
      rw [he] at hlt
      exact hge (cmp_neg.2 hlt)
    have e1 : decide (cmpStr (at' l r).1 e.1 ≥ 0) = true := decide_eq_true (by omega)
    have hit : bsHit l e.1 = (cmpStr (at' l r).1 e.1 == 0) := by
      unfold bsHit
      rw [hr, decide_eq_true hl, Bool.true_and]
    have e3 : putStep e (at' l r) (false, l.take r) = (true, cond (cmpStr (at' l r).1 e.1 == 0) (l.take r ++ [e]) (l.take r ++ [e] ++ [at' l r])) := by
      unfold putStep putAt
      rw [e1]
      unfold bne
      cases cmpStr (at' l r).1 e.1 == 0 <;> rfl
    rw [hd]
    show putOut e (putGo e (l.drop (r + 1)) (putStep e (at' l r) (false, l.take r))) = _
    rw [e3, putGo_high e _ _ hrest, hit]
    show cond (cmpStr (at' l r).1 e.1 == 0) (l.take r ++ [e]) (l.take r ++ [e] ++ [at' l r]) ++ l.drop (r + 1) = _
    cases cmpStr (at' l r).1 e.1 == 0 with
    | true =>
      rw [cond_true, cond_true, set_eq e l r hl, List.append_assoc]
      rfl
    | false =>
      rw [cond_false, cond_false, List.append_assoc, List.append_assoc]
      rfl
  · have hd : l.drop r = [] := List.drop_eq_nil_of_le (by omega)
    have hit : bsHit l e.1 = false := by
      unfold bsHit
      rw [hr, decide_eq_false hl, Bool.false_and]
    rw [hd, hit]
    rfl
theorem putAs_w {l : List TEntry} {e : TEntry} (h : bsAt l e.1 ≤ l.length) : wEs (putAs l e) ≤ wEs l + wE e + 1 := by
  unfold putAs
  have h1 := wEs_app (l.take (bsAt l e.1)) (l.drop (bsAt l e.1))
  rw [List.take_append_drop] at h1
  cases hh : bsHit l e.1 with
  | true =>
    have hlt : bsAt l e.1 < l.length := by
      unfold bsHit at hh
      exact of_decide_eq_true ((Bool.and_eq_true _ _).mp hh).1
    rw [cond_true, set_eq e l _ hlt, wEs_app, wEs_cons]
    have h2 := wEs_app (l.take (bsAt l e.1 + 1)) (l.drop (bsAt l e.1 + 1))
    rw [List.take_append_drop] at h2
    have h3 : l.drop (bsAt l e.1) = at' l (bsAt l e.1) :: l.drop (bsAt l e.1 + 1) := drop_cons dE hlt
    rw [h3, wEs_cons] at h1
    omega
  | false =>
    rw [cond_false, ins_eq e l _ h, wEs_app, wEs_cons]
    omega
theorem putE_as (l : List TEntry) (e : TEntry) : putE l e = cond (!areEntries l) (l, false) (cond (!areEntries (putAs l e)) (l, false) (putAs l e, true)) := by
  unfold putE putFin
  cases ha : areEntries l with
  | false => rfl
  | true => rw [put_as e (inOrder ha)]
theorem bsGo_le {l : List TEntry} {s : ByteArray} : ∀ (d i j : Nat), i ≤ j → bsGo l s d i j ≤ j
  | 0, i, j, h => h
  | d + 1, i, j, h => by
    unfold bsGo
    by_cases c : i < j
    · rw [decide_eq_true c, cond_true]
      cases decide (cmpStr (at' l ((i + j) / 2)).1 s < 0) with
      | true => exact bsGo_le d _ j (by omega)
      | false => exact Nat.le_trans (bsGo_le d i _ (by omega)) (by omega)
    · rw [decide_eq_false c, cond_false]
      exact h
theorem bsAt_le (l : List TEntry) (s : ByteArray) : bsAt l s ≤ l.length := bsGo_le _ _ _ (Nat.zero_le _)
end Go.Proofs.YtcmjbplnjjdcdaaGreat.Ref

namespace Go.Proofs.YtcmjbplnjjdcdaaGreat.Ref
open Go.RowKit Go.Proofs.YtcmjbplnjjdcdaaGreatW.PrintWords Go.Proofs.YtcmjbplnjjdcdaaGreatW.PrintLast

theorem at_get {l : List TEntry} {i : Nat} {x : TEntry} (h : l[i]? = some x) : at' l i = x := by
  unfold at'
  rw [List.getD_eq_getElem?_getD, h]
  rfl
theorem get_at {l : List TEntry} {i : Nat} (h : i < l.length) : l[i]? = some (at' l i) := by
  unfold at'
  rw [List.getD_eq_getElem?_getD, List.getElem?_eq_getElem h]
  rfl
theorem put_there (l : List TEntry) (e : TEntry) : bsAt l e.1 < (putAs l e).length ∧ at' (putAs l e) (bsAt l e.1) = e := by
  have hle := bsAt_le l e.1
  unfold putAs
  cases hh : bsHit l e.1 with
  | true =>
    have hlt : bsAt l e.1 < l.length := by
      unfold bsHit at hh
      exact of_decide_eq_true ((Bool.and_eq_true _ _).mp hh).1
    rw [cond_true]
    exact ⟨by rw [List.length_set]; exact hlt, at_get (by rw [List.getElem?_set_self hlt])⟩
  | false =>
    rw [cond_false]
    refine ⟨by rw [List.length_insertIdx_of_le_length hle]; omega, at_get ?_⟩
    rw [List.getElem?_insertIdx_self, if_pos hle]
theorem put_stays {l : List TEntry} (e : TEntry) {i : Nat} (hi : i < l.length) : ∃ j, j < (putAs l e).length ∧ (at' (putAs l e) j).1 = (at' l i).1 ∧ ((at' l i).1 ≠ e.1 → at' (putAs l e) j = at' l i) := by
  have hle := bsAt_le l e.1
  unfold putAs
  cases hh : bsHit l e.1 with
  | true =>
    obtain ⟨h1, h2⟩ := (Bool.and_eq_true _ _).mp (show (decide (bsAt l e.1 < l.length) && cmpStr (at' l (bsAt l e.1)).1 e.1 == 0) = true from hh)
    have hlt := of_decide_eq_true h1
    have heq := eqStr_iff.1 (cmp_zero (eq_of_beq h2))
    rw [cond_true]
    refine ⟨i, by rw [List.length_set]; exact hi, ?_⟩
    by_cases c : i = bsAt l e.1
    · subst c
      have : at' (l.set (bsAt l e.1) e) (bsAt l e.1) = e := at_get (by rw [List.getElem?_set_self hlt])
      rw [this]
      exact ⟨heq.symm, fun h => (h heq).elim⟩
    · have : at' (l.set (bsAt l e.1) e) i = at' l i := at_get (by rw [List.getElem?_set_ne (fun h => c h.symm)]; exact get_at hi)
      rw [this]
      exact ⟨rfl, fun _ => rfl⟩
  | false =>
    rw [cond_false]
    by_cases c : i < bsAt l e.1
    · have : at' (l.insertIdx (bsAt l e.1) e) i = at' l i := at_get (by rw [List.getElem?_insertIdx_of_lt c]; exact get_at hi)
      exact ⟨i, by rw [List.length_insertIdx_of_le_length hle]; omega, by rw [this], fun _ => this⟩
    · have : at' (l.insertIdx (bsAt l e.1) e) (i + 1) = at' l i := at_get (by rw [List.getElem?_insertIdx_of_gt (by omega)]; exact get_at hi)
      exact ⟨i + 1, by rw [List.length_insertIdx_of_le_length hle]; omega, by rw [this], fun _ => this⟩
theorem idxFrom_none {α : Type} {p : α → Bool} : ∀ (l : List α) (k : Nat), (∀ x ∈ l, p x = false) → idxFrom p k l = -1
  | [], _, _ => rfl
  | x :: l, k, h => by
    show cond (p x) _ _ = _
    rw [h x (List.mem_cons_self ..), cond_false]
    exact idxFrom_none l (k + 1) (fun y hy => h y (List.mem_cons_of_mem _ hy))
theorem drop_gone {m : List TEntry} {j : Nat} (h : InOrder m) (hj : j < m.length) : findEntry (m.eraseIdx j) (at' m j).1 = -1 := by
  refine idxFrom_none _ _ (fun x hx => ?_)
  have hx : x ∈ m.eraseIdx j := hx
  obtain ⟨t, ht, e⟩ := List.getElem_of_mem hx
  have hl : (m.eraseIdx j).length = m.length - 1 := List.length_eraseIdx_of_lt hj
  have hg : (m.eraseIdx j)[t]? = some x := by rw [List.getElem?_eq_getElem ht, e]
  rw [List.getElem?_eraseIdx] at hg
  cases hb : eqStr x.1 (at' m j).1 with
  | false => rfl
  | true =>
    exfalso
    have he := eqStr_iff.1 hb
    by_cases c : t < j
    · rw [if_pos c] at hg
      have hat := at_get hg
      have hlt := h.less t j c hj
      rw [hat, he, less_irr] at hlt
      cases hlt
    · rw [if_neg c] at hg
      have hat := at_get hg
      have hlt := h.less j (t + 1) (by omega) (by omega)
      rw [hat, he, less_irr] at hlt
      cases hlt
theorem drop_ok {m : List TEntry} {j : Nat} (ha : areEntries m = true) (hj : j < m.length) : dropE m (at' m j).1 = (m.eraseIdx j, true) := by
  unfold dropE
  rw [ha, find_at (inOrder ha) hj, show decide (((j : Nat) : Int) < 0) = false from decide_eq_false (by omega)]
  rfl
def plainB (b : Int) : Option Int := cond (b == 48) (some 111) (cond (b == 49) (some 108) (cond (b == 53) (some 115) (cond (b == 45) none (some b))))
def plainOf (s : ByteArray) : ByteArray := strOfNums ((bytesOf s).filterMap plainB)
def looksLike (a b : ByteArray) : Bool := isLabel a && (isLabel b && eqStr (plainOf a) (plainOf b))
def alikeOf (s : ByteArray) (e : TEntry) : Option ByteArray := cond (!(eqStr e.1 s)) (cond (looksLike e.1 s) (some e.1) none) none
def alikeIn (l : List TEntry) (s : ByteArray) : List ByteArray := l.filterMap (alikeOf s)
theorem label8 {s : ByteArray} (h : isLabel s = true) : s.size ≤ 8 := by
  have h := ((Bool.and_eq_true _ _).mp h).1
  have h := of_decide_eq_true ((Bool.and_eq_true _ _).mp h).2
  omega
theorem bytes_at (s : ByteArray) (j : Nat) : (bytesOf s).getD j 0 = bt s (j : Int) := by
  unfold bytesOf bt
  rw [List.getD_eq_getElem?_getD, List.getElem?_map, Array.getElem?_toList, Int.toNat_natCast]
  by_cases h : j < s.size
  · have h2 : j < s.data.size := h
    rw [dif_pos h, Array.getElem?_eq_getElem h2]
    rfl
  · have h2 : ¬ j < s.data.size := h
    rw [dif_neg h, Array.getElem?_eq_none (by omega)]
    rfl
theorem wE_lab (e : TEntry) : e.1.size ≤ wE e := by unfold wE; omega
end Go.Proofs.YtcmjbplnjjdcdaaGreat.Ref

namespace Go.Proofs.YtcmjbplnjjdcdaaGreat.Ref
open Go.RowKit Go.Proofs.YtcmjbplnjjdcdaaGreatW.PrintWords Go.Proofs.YtcmjbplnjjdcdaaGreatW.PrintLast
namespace Rpl
open Go.Lib Go.Proofs
def keys : List Nat := [48, 49, 53, 45]
def news : List (List UInt8) := [[111], [108], [115], []]
/-- k rounds to come. A: the strings' block; B: the block of what is to be replaced; T: the table's. -/
structure BInv (w : World) (A B T k : Nat) (wr : World) : Prop where
  k4 : k ≤ 4
  below : Below w.heap.size w wr
  big : T < wr.heap.size
  cA0 : wr.cell? ⟨A, 0, none⟩ = some (.string ⟨#[48]⟩)
  cA1 : wr.cell? ⟨A, 1, none⟩ = some (.string ⟨#[111]⟩)
  cA2 : wr.cell? ⟨A, 2, none⟩ = some (.string ⟨#[49]⟩)
  cA3 : wr.cell? ⟨A, 3, none⟩ = some (.string ⟨#[108]⟩)
  cA4 : wr.cell? ⟨A, 4, none⟩ = some (.string ⟨#[53]⟩)
  cA5 : wr.cell? ⟨A, 5, none⟩ = some (.string ⟨#[115]⟩)
  cA6 : wr.cell? ⟨A, 6, none⟩ = some (.string ⟨#[45]⟩)
  cA7 : wr.cell? ⟨A, 7, none⟩ = some (.string ⟨#[]⟩)
  t256 : wr.cell? ⟨T, 256, none⟩ = some (.slice (some ⟨B, 0, none⟩) (4 - k) 4)
  room : ∀ j, j < 4 → (wr.cell? ⟨B, j, none⟩).isSome = true
  froB : ∀ j, wr.frozen? ⟨B, j, none⟩ = false
  froT : ∀ j, wr.frozen? ⟨T, j, none⟩ = false
  todo : ∀ j, j < 256 → j ∉ keys.drop k → wr.cell? ⟨T, j, none⟩ = some (.slice none 0 0)
  done : ∀ i, k ≤ i → i < 4 → ∃ b c, wr.cell? ⟨T, keys.getD i 0, none⟩ = some (.slice (some ⟨b, 0, none⟩) (news.getD i []).length c) ∧ b < wr.heap.size ∧ T < b ∧ ∀ j u, (news.getD i [])[j]? = some u → wr.cell? ⟨b, j, none⟩ = some (.int .u8 u.toNat)
theorem size_put (b : Nat) : ∀ (vs : List Value) (o : Nat) (w : World), (w.setCells b o vs).heap.size = w.heap.size
  | [], _, _ => rfl
  | v :: vs, o, w => by
    show ((w.setCell ⟨b, o, none⟩ v).setCells b (o + 1) vs).heap.size = _
    rw [size_put b vs, World.size_setCell]
theorem below_put {N b : Nat} {w0 : World} : ∀ {w : World}, Below N w0 w → N ≤ b → ∀ (o : Nat) (vs : List Value), Below N w0 (w.setCells b o vs)
  | w, h, _, _, [] => h
  | w, h, hb, o, v :: vs => below_put (w := w.setCell ⟨b, o, none⟩ v) (Below.setCell h hb v) hb (o + 1) vs
theorem sc_ne {w : World} {b i j : Nat} {v : Value} (h : j ≠ i) : (w.setCell ⟨b, i, none⟩ v).cell? ⟨b, j, none⟩ = w.cell? ⟨b, j, none⟩ := by
  apply World.cell?_setCell_other
  intro e
  injection e with _ e
  exact h e.symm
theorem sc_eq {w : World} {a : Addr} {v u : Value} (h : w.cell? a = some u) : (w.setCell a v).cell? a = some v := by
  apply World.cell?_setCell_same
  exact h
theorem keys_lt : ∀ i, i < 4 → keys.getD i 0 < 256 := by decide
theorem keys_ne : ∀ i, i < 4 → ∀ k, k < 4 → i ≠ k → keys.getD i 0 ≠ keys.getD k 0 := by decide
theorem keys_notin : ∀ k, k < 4 → keys.getD k 0 ∉ keys.drop (k + 1) := by decide
theorem keys_drop : ∀ k, k < 4 → keys.drop k = keys.getD k 0 :: keys.drop (k + 1) := by decide
theorem BInv.next {w wr Wc Wd We : World} {A B T k : Nat} (h : BInv w A B T (k + 1) wr) (hA : A < w.heap.size) (hB : B = w.heap.size) (hT : T = w.heap.size + 1) {o1 o2 : Obj} {s : Value} {row : Array Value} {ty : TypeId} {fr : Nat × Nat} {cap : Nat}
    (hWc : Wc = ((wr.alloc o1).alloc o2).setCells B (0 + (4 - (k + 1))) [s])
    (hWd : Wd = Wc.setCell ⟨T, 256, none⟩ (.slice (some ⟨B, 0, none⟩) (4 - k) 4))
    (hWe : We = Wd.drew.alloc (.cells row ty fr))
    (hrow : ∀ (j : Nat) (u : UInt8), (news.getD k [])[j]? = some u → row[j]? = some (Value.int .u8 u.toNat)) :
    BInv w A B T k (We.setCell ⟨T, keys.getD k 0, none⟩ (.slice (some ⟨Wd.heap.size, 0, none⟩) (news.getD k []).length cap)) := by
  have hk4 := h.k4
  have hbig := h.big
  have hkey : keys.getD k 0 < 256 := keys_lt k (by omega)
  have hsz : w.heap.size + 2 ≤ wr.heap.size := by omega
  have s1 : ((wr.alloc o1).alloc o2).heap.size = wr.heap.size + 2 := by rw [World.size_alloc, World.size_alloc]
  have s2 : Wc.heap.size = wr.heap.size + 2 := by rw [hWc, ← s1]; exact size_put ..
  have s3 : Wd.heap.size = wr.heap.size + 2 := by rw [hWd, World.size_setCell, s2]
  have s4 : We.heap.size = wr.heap.size + 3 := by rw [hWe, World.size_alloc, World.size_drew, s3]
  generalize hWf : We.setCell ⟨T, keys.getD k 0, none⟩ (.slice (some ⟨Wd.heap.size, 0, none⟩) (news.getD k []).length cap) = Wf
  have s5 : Wf.heap.size = wr.heap.size + 3 := by rw [← hWf, World.size_setCell, s4]
  have a2 : ∀ b j, b < wr.heap.size → ((wr.alloc o1).alloc o2).cell? ⟨b, j, none⟩ = wr.cell? ⟨b, j, none⟩ := fun b j hb => by
    rw [World.cell?_alloc_past _ _ _ (by rw [World.size_alloc]; omega), World.cell?_alloc_past _ _ _ hb]
  have f2 : ∀ b j, b < wr.heap.size → ((wr.alloc o1).alloc o2).frozen? ⟨b, j, none⟩ = wr.frozen? ⟨b, j, none⟩ := fun b j hb => by
    rw [World.frozen?_alloc_past _ _ _ (by rw [World.size_alloc]; omega), World.frozen?_alloc_past _ _ _ hb]
  have fall : ∀ b j, b < wr.heap.size → Wf.frozen? ⟨b, j, none⟩ = wr.frozen? ⟨b, j, none⟩ := fun b j hb => by
    rw [← hWf, World.frozen?_setCell, hWe, World.frozen?_alloc_past _ _ _ (by rw [World.size_drew, s3]; omega), World.frozen?_drew, hWd, World.frozen?_setCell, hWc, World.frozen?_setCells, f2 b j hb]
  have far : ∀ b j, b < wr.heap.size → b ≠ B → b ≠ T → Wf.cell? ⟨b, j, none⟩ = wr.cell? ⟨b, j, none⟩ := fun b j hb h1 h2 => by
    rw [← hWf, World.cell?_setCell_far _ _ _ _ (fun e => h2 e.symm), hWe, World.cell?_alloc_past _ _ _ (by rw [World.size_drew, s3]; omega), World.cell?_drew, hWd, World.cell?_setCell_far _ _ _ _ (fun e => h2 e.symm), hWc, World.cell?_setCells_out _ _ _ _ _ (fun e => (h1 e).elim), a2 b j hb]
  have hBT : B ≠ T := by omega
  have onB : ∀ j, Wf.cell? ⟨B, j, none⟩ = Wc.cell? ⟨B, j, none⟩ := fun j => by
    rw [← hWf, World.cell?_setCell_far _ _ _ _ (fun e => hBT e.symm), hWe, World.cell?_alloc_past _ _ _ (by rw [World.size_drew, s3]; omega), World.cell?_drew, hWd, World.cell?_setCell_far _ _ _ _ (fun e => hBT e.symm)]
  have onT0 : ∀ j, Wc.cell? ⟨T, j, none⟩ = wr.cell? ⟨T, j, none⟩ := fun j => by
    rw [hWc, World.cell?_setCells_out _ _ _ _ _ (fun e => (hBT e.symm).elim), a2 T j hbig]
  have onT : ∀ j, j ≠ 256 → j ≠ keys.getD k 0 → Wf.cell? ⟨T, j, none⟩ = wr.cell? ⟨T, j, none⟩ := fun j h1 h2 => by
    rw [← hWf, sc_ne h2, hWe, World.cell?_alloc_past _ _ _ (by rw [World.size_drew, s3]; omega), World.cell?_drew, hWd, sc_ne h1, onT0 j]
  have t256 : Wd.cell? ⟨T, 256, none⟩ = some (.slice (some ⟨B, 0, none⟩) (4 - k) 4) := by
    rw [hWd]
    exact sc_eq (u := .slice (some ⟨B, 0, none⟩) (4 - (k + 1)) 4) (by rw [onT0]; exact h.t256)
  have newb : ∀ j, Wf.cell? ⟨Wd.heap.size, j, none⟩ = row[j]? := fun j => by
    rw [← hWf, World.cell?_setCell_far _ _ _ _ (fun e => by have e : T = Wd.heap.size := e; omega), hWe]
    obtain ⟨lo, hi⟩ := fr
    exact World.cell?_alloc_mark Wd.drew row ty (lo, hi) j
  refine ⟨by omega, ?_, by omega, ?_, ?_, ?_, ?_, ?_, ?_, ?_, ?_, ?_, ?_, ?_, ?_, ?_, ?_⟩
  · rw [← hWf]
    refine Below.setCell ?_ (by show _ ≤ T; omega) _
    rw [hWe]
    refine Below.alloc (Below.drew ?_) (by rw [World.size_drew]; omega) _
    rw [hWd]
    refine Below.setCell ?_ (by show _ ≤ T; omega) _
    rw [hWc]
    refine below_put ?_ (by omega) _ _
    exact Below.alloc (Below.alloc h.below (by omega) _) (by rw [World.size_alloc]; omega) _
  · rw [far A _ (by omega) (by omega) (by omega)]; exact h.cA0
  · rw [far A _ (by omega) (by omega) (by omega)]; exact h.cA1
  · rw [far A _ (by omega) (by omega) (by omega)]; exact h.cA2
  · rw [far A _ (by omega) (by omega) (by omega)]; exact h.cA3
  · rw [far A _ (by omega) (by omega) (by omega)]; exact h.cA4
  · rw [far A _ (by omega) (by omega) (by omega)]; exact h.cA5
  · rw [far A _ (by omega) (by omega) (by omega)]; exact h.cA6
  · rw [far A _ (by omega) (by omega) (by omega)]; exact h.cA7
  · rw [← hWf, sc_ne (by omega), hWe, World.cell?_alloc_past _ _ _ (by rw [World.size_drew, s3]; omega), World.cell?_drew, t256]
  · intro j hj
    rw [onB, hWc]
    by_cases c : j = 0 + (4 - (k + 1))
    · have := World.cell?_setCells_in B [s] (0 + (4 - (k + 1))) ((wr.alloc o1).alloc o2) (fun t ht => by
        have : t = 0 := by simp at ht; omega
        rw [this, Nat.add_zero, a2 B _ (by omega)]
        exact h.room _ (by omega)) 0 (by simp)
      have e : (0 + (4 - (k + 1))) + 0 = j := by omega
      rw [e] at this
      rw [this]; rfl
    · rw [World.cell?_setCells_out _ _ _ _ _ (fun _ _ => by simp only [List.length_cons, List.length_nil]; omega), a2 B j (by omega)]
      exact h.room j hj
  · intro j; rw [fall B j (by omega)]; exact h.froB j
  · intro j; rw [fall T j (by omega)]; exact h.froT j
  · intro j hj hn
    rw [keys_drop k (by omega)] at hn
    rw [onT j (by omega) (fun e => hn (by rw [e]; exact List.mem_cons_self ..))]
    exact h.todo j hj (fun hm => hn (List.mem_cons_of_mem _ hm))
  · intro i hi hi4
    by_cases c : i = k
    · subst c
      refine ⟨Wd.heap.size, cap, ?_, by omega, by omega, fun j u hj => by rw [newb, hrow j u hj]⟩
      rw [← hWf]
      refine sc_eq (u := .slice none 0 0) ?_
      rw [hWe, World.cell?_alloc_past _ _ _ (by rw [World.size_drew, s3]; omega), World.cell?_drew, hWd, sc_ne (by omega), onT0]
      exact h.todo _ hkey (keys_notin i (by omega))
    · obtain ⟨b, c', h1, h2, h3, h4⟩ := h.done i (by omega) hi4
      refine ⟨b, c', ?_, by omega, h3, fun j u hj => ?_⟩
      · rw [onT _ (by have := keys_lt i hi4; omega) (keys_ne i hi4 k (by omega) c)]; exact h1
      · rw [far b j h2 (by omega) (by omega)]; exact h4 j u hj
theorem conv1 {P : Program} (w : World) (t59 t9 t5 : TypeId) (o : UInt8) (hs : P.underlying t59 = some (.slice t5)) (he : P.underlying t5 = some (.int .u8)) (hd : P.underlying t9 = some .string) :
    (convert t59 t9 (.slice (some ⟨w.heap.size, 0, none⟩) 1 1)).run P (w.alloc (.cells #[.int .u8 (o.toNat : Int)] t5)) = .ok (.string ⟨#[o]⟩) (w.alloc (.cells #[.int .u8 (o.toNat : Int)] t5)) :=
  run_convert_bytes_back _ t59 t9 t5 ⟨w.heap.size, 0, none⟩ 1 [o] hs he hd (fun j hj => by
    have hj0 : j = 0 := by simp at hj; omega
    subst hj0
    rw [Addr.add_lit]
    have := World.cell?_alloc_at (w := w) #[.int .u8 (o.toNat : Int)] t5 w.heap.size 0 rfl
    rw [Nat.add_zero, this]; rfl)
theorem app1 {P : Program} {w wr : World} {A B T k : Nat} (h : BInv w A B T (k + 1) wr) (hB : B = w.heap.size) (hT : T = w.heap.size + 1) (t23 t9 : TypeId) (i9 : TypeInfo) (ht : P.underlying t23 = some (.slice t9)) (hi9 : P.info? t9 = some i9) (hzs : i9.size = 1) (o1 : Obj) (s : ByteArray) (ty : TypeId) :
    (Builtin.append_ #[t23, t23] ty #[.slice (some ⟨B, 0, none⟩) (4 - (k + 1)) 4, .slice (some ⟨wr.heap.size + 1, 0, none⟩) 1 1]).run P ((wr.alloc o1).alloc (.cells #[.string s] t9)) = .ok (.slice (some ⟨B, 0, none⟩) (4 - (k + 1) + 1) 4) (((wr.alloc o1).alloc (.cells #[.string s] t9)).setCells B (0 + (4 - (k + 1))) [.string s]) := by
  have hk := h.k4
  have hbig := h.big
  obtain ⟨Wb, hWb⟩ : ∃ Wb, Wb = (wr.alloc o1).alloc (.cells #[.string s] t9) := ⟨_, rfl⟩
  rw [← hWb]
  have hsrc : Src P i9.size t23 (.slice (some ⟨wr.heap.size + 1, 0, none⟩) 1 1) 1 [.string s] Wb := by
    rw [hzs]
    refine Src.ofSlice Wb ht ⟨wr.heap.size + 1, 0, none⟩ 1 1 [.string s] rfl (fun j u hj => ?_) (fun v hv => ?_)
    · have hj0 : j = 0 := by have := (List.getElem?_eq_some_iff.1 hj).1; simp at this; omega
      subst hj0
      have := World.cell?_alloc_at (w := wr.alloc o1) #[.string s] t9 (wr.heap.size + 1) 0 (by rw [World.size_alloc])
      rw [Addr.add_lit, hWb, Nat.add_zero, this]
      exact hj
    · simp only [List.mem_singleton] at hv
      rw [hv]; rfl
  have := run_append_room_src (P := P) (w := Wb) t23 t23 ty t9 i9 ht hi9 B 0 (4 - (k + 1)) 4 _ 1 _ hsrc (by omega) (by
      intro j hj
      have hj0 : j = 0 := by simp at hj; omega
      subst hj0
      rw [hzs, hWb, World.cell?_alloc_past _ _ _ (by rw [World.size_alloc]; omega), World.cell?_alloc_past _ _ _ (by omega)]
      exact h.room _ (by omega)) (by
      intro j hj
      rw [hWb, World.frozen?_alloc_past _ _ _ (by rw [World.size_alloc]; omega), World.frozen?_alloc_past _ _ _ (by omega)]
      exact h.froB _)
  rw [hzs, Nat.mul_one] at this
  exact this
theorem row_bytes (l : List UInt8) (G : Nat) : ∀ (j : Nat) (u : UInt8), l[j]? = some u → (bytesRow ⟨l.toArray⟩ G)[j]? = some (Value.int .u8 u.toNat) := by
  intro j u h
  have hj := (List.getElem?_eq_some_iff.1 h).1
  unfold bytesRow
  rw [Array.getElem?_append_left (by simp; exact hj)]
  simp [h]

theorem Aside.intro {p : Prop} (h : p) : Aside p := h
/-- A new replacer: its own block R, its strings in A. -/
structure Fresh (R A G : Nat) (w : World) : Prop where
  hA : A < w.heap.size
  hR : R < w.heap.size
  hRA : R ≠ A
  hG : 8 ≤ G
  r0 : w.cell? ⟨R, 0, none⟩ = some (.int .u32 0)
  r1 : w.cell? ⟨R, 1, none⟩ = some (.int .i32 0)
  r3 : w.cell? ⟨R, 3, none⟩ = some .nilIface
  r4 : w.cell? ⟨R, 4, none⟩ = some (.slice (some ⟨A, 0, none⟩) 8 G)
  fz : ∀ j, w.frozen? ⟨R, j, none⟩ = false
  c0 : w.cell? ⟨A, 0, none⟩ = some (.string ⟨#[48]⟩)
  c1 : w.cell? ⟨A, 1, none⟩ = some (.string ⟨#[111]⟩)
  c2 : w.cell? ⟨A, 2, none⟩ = some (.string ⟨#[49]⟩)
  c3 : w.cell? ⟨A, 3, none⟩ = some (.string ⟨#[108]⟩)
  c4 : w.cell? ⟨A, 4, none⟩ = some (.string ⟨#[53]⟩)
  c5 : w.cell? ⟨A, 5, none⟩ = some (.string ⟨#[115]⟩)
  c6 : w.cell? ⟨A, 6, none⟩ = some (.string ⟨#[45]⟩)
  c7 : w.cell? ⟨A, 7, none⟩ = some (.string ⟨#[]⟩)
abbrev locked (R : Nat) (w : World) : World := w.setCell ⟨R, 1, none⟩ (.int .i32 1)
abbrev built (t103 R T : Nat) (wx : World) : World := (wx.setCell ⟨R, 3, none⟩ (.iface t103 (.pointer (some ⟨T, 0, none⟩)))).setCell ⟨R, 4, none⟩ (.slice none 0 0)
/-- What stands when the table is made. -/
def After (t103 R A : Nat) (w w' : World) : Prop := ∃ wx, BInv (locked R w) A w.heap.size (w.heap.size + 1) 0 wx ∧ w' = ((built t103 R (w.heap.size + 1) wx).drew.setCell ⟨R, 0, none⟩ (.int .u32 1)).setCell ⟨R, 1, none⟩ (.int .i32 0)
def rep (b : UInt8) : Option (List UInt8) := if b = 48 then some [111] else if b = 49 then some [108] else if b = 53 then some [115] else if b = 45 then some [] else none
def outOf (b : UInt8) : List UInt8 := (rep b).getD [b]
/-- The table at T. -/
structure Table (T : Nat) (W : World) : Prop where
  hT : T < W.heap.size
  t256 : ∃ a, W.cell? ⟨T, 256, none⟩ = some (.slice (some a) 4 4)
  no : ∀ b, rep b = none → W.cell? ⟨T, b.toNat, none⟩ = some (.slice none 0 0)
  yes : ∀ b l, rep b = some l → ∃ k c, W.cell? ⟨T, b.toNat, none⟩ = some (.slice (some ⟨k, 0, none⟩) l.length c) ∧ k < W.heap.size ∧ ∀ j u, l[j]? = some u → W.cell? ⟨k, j, none⟩ = some (.int .u8 u.toNat)
theorem neq_nil {P : Program} (w : World) (t e : TypeId) (a : Option Addr) (n c : Nat) (h : P.underlying t = some (.slice e)) :
    (binOp .neq t (.slice a n c) (.slice none 0 0)).run P w = .ok (.bool (!a.isNone)) w := by
  simp only [binOp]
  simp [Op.equal, Op.maxDepth, Lib.run_equalIn_slice_nil w 9999 t e a n c 0 0 h]
/-- What is written of the answer, in the new block D. -/
structure Buf (w0 : World) (D N : Nat) (l : List UInt8) (w2 : World) : Prop where
  below : Below w0.heap.size w0 w2
  big : D < w2.heap.size
  room : ∀ j, j < N → (w2.cell? ⟨D, j, none⟩).isSome = true
  fz : ∀ j, w2.frozen? ⟨D, j, none⟩ = false
  at_ : ∀ j u, l[j]? = some u → w2.cell? ⟨D, j, none⟩ = some (.int .u8 u.toNat)
theorem Buf.put {w0 w : World} {D N j : Nat} {l : List UInt8} {u : UInt8} (h : Buf w0 D N l w) (hj : j = l.length) (hN : j < N) (hD : D = w0.heap.size) : Buf w0 D N (l ++ [u]) (w.setCell ⟨D, j, none⟩ (.int .u8 u.toNat)) := by
  obtain ⟨v0, hv0⟩ := Option.isSome_iff_exists.1 (h.room j hN)
  refine ⟨Below.setCell h.below (by show w0.heap.size ≤ D; omega) _, by rw [World.size_setCell]; exact h.big, fun t ht => ?_, fun t => by rw [World.frozen?_setCell]; exact h.fz t, fun t x hx => ?_⟩
  · by_cases c : t = j
    · subst c; rw [sc_eq hv0]; rfl
    · rw [sc_ne c]; exact h.room t ht
  · have hlt := (List.getElem?_eq_some_iff.1 hx).1
    rw [List.length_append, List.length_singleton] at hlt
    by_cases c : t = j
    · subst c
      rw [sc_eq hv0]
      rw [hj, List.getElem?_append_right (Nat.le_refl _), Nat.sub_self] at hx
      injection hx with hx
      rw [hx]
    · rw [sc_ne c]
      rw [List.getElem?_append_left (by omega)] at hx
      exact h.at_ t x hx
theorem Buf.drew {w0 w : World} {D N : Nat} {l : List UInt8} (h : Buf w0 D N l w) : Buf w0 D N l w.drew := ⟨Below.drew h.below, h.big, h.room, h.fz, h.at_⟩
abbrev bs (s : ByteArray) : List UInt8 := s.data.toList
def outs (s : ByteArray) (i : Nat) : List UInt8 := ((bs s).take i).flatMap outOf
def sizeAt (s : ByteArray) (i : Nat) : Int := ((s.size - i : Nat) : Int) + (((bs s).take i).flatMap outOf).length
def anyAt (s : ByteArray) (i : Nat) : Bool := ((bs s).take i).any fun b => (rep b).isSome
theorem take_one {s : ByteArray} {i : Nat} (h : i < s.size) : (bs s).take (i + 1) = (bs s).take i ++ [s[i]] := by
  rw [List.take_add_one, show (bs s)[i]? = some s[i] from by
    show s.data.toList[i]? = _
    rw [Array.getElem?_toList, Array.getElem?_eq_getElem h]; rfl]
  rfl
theorem outs_step {s : ByteArray} {i : Nat} (h : i < s.size) : outs s (i + 1) = outs s i ++ outOf s[i] := by
  unfold outs
  rw [take_one h, List.flatMap_append]
  simp
theorem outs_all (s : ByteArray) : outs s s.size = (bs s).flatMap outOf := by
  unfold outs
  rw [List.take_of_length_le (by show s.data.toList.length ≤ _; rw [Array.length_toList]; exact Nat.le_refl _)]
theorem outs_le {s : ByteArray} {i : Nat} (h : i ≤ s.size) : (outs s i).length ≤ (outs s s.size).length := by
  rw [outs_all]
  conv => rhs; rw [← List.take_append_drop i (bs s), List.flatMap_append, List.length_append]
  unfold outs
  omega
theorem sizeAt_none {s : ByteArray} {i : Nat} (h : i < s.size) (hn : rep s[i] = none) : sizeAt s (i + 1) = sizeAt s i := by
  unfold sizeAt
  rw [take_one h, List.flatMap_append, List.length_append]
  simp only [List.flatMap_cons, List.flatMap_nil, outOf, hn, Option.getD_none, List.append_nil, List.length_cons, List.length_nil]
  omega
theorem sizeAt_some {s : ByteArray} {i : Nat} (h : i < s.size) {l : List UInt8} (hn : rep s[i] = some l) : sizeAt s (i + 1) = sizeAt s i + ((l.length : Int) - 1) := by
  unfold sizeAt
  rw [take_one h, List.flatMap_append, List.length_append]
  simp only [List.flatMap_cons, List.flatMap_nil, outOf, hn, Option.getD_some, List.append_nil]
  omega
theorem anyAt_step {s : ByteArray} {i : Nat} (h : i < s.size) : anyAt s (i + 1) = (anyAt s i || (rep s[i]).isSome) := by
  unfold anyAt
  rw [take_one h, List.any_append]
  simp
theorem rep_len {b : UInt8} {l : List UInt8} (h : rep b = some l) : l.length ≤ 1 := by
  unfold rep at h
  split at h
  · injection h with h; subst h; simp
  · split at h
    · injection h with h; subst h; simp
    · split at h
      · injection h with h; subst h; simp
      · split at h
        · injection h with h; subst h; simp
        · cases h
theorem flat_same (l : List UInt8) (h : ∀ b ∈ l, rep b = none) : l.flatMap outOf = l := by
  induction l with
  | nil => rfl
  | cons b l ih =>
    have : outOf b = [b] := by unfold outOf; rw [h b (List.mem_cons_self ..)]; rfl
    rw [List.flatMap_cons, this, ih (fun x hx => h x (List.mem_cons_of_mem _ hx))]
    rfl
theorem flat_len (l : List UInt8) : (l.flatMap outOf).length ≤ l.length := by
  induction l with
  | nil => simp
  | cons b l ih =>
    rw [List.flatMap_cons, List.length_append, List.length_cons]
    have : (outOf b).length ≤ 1 := by
      unfold outOf
      cases h : rep b with
      | none => simp
      | some x => simpa using rep_len h
    omega
theorem sizeAt_le {s : ByteArray} {i : Nat} (h : i ≤ s.size) : 0 ≤ sizeAt s i ∧ sizeAt s i ≤ s.size := by
  unfold sizeAt
  have := flat_len ((bs s).take i)
  have h2 : ((bs s).take i).length ≤ i := by rw [List.length_take]; omega
  omega
theorem rep_eq (b : UInt8) : (rep b = none ∧ b.toNat ∉ keys) ∨ ∃ i, i < 4 ∧ b.toNat = keys.getD i 0 ∧ rep b = some (news.getD i []) := by
  unfold rep
  by_cases h0 : b = 48
  · subst h0; exact .inr ⟨0, by decide, rfl, rfl⟩
  rw [if_neg h0]
  by_cases h1 : b = 49
  · subst h1; exact .inr ⟨1, by decide, rfl, rfl⟩
  rw [if_neg h1]
  by_cases h2 : b = 53
  · subst h2; exact .inr ⟨2, by decide, rfl, rfl⟩
  rw [if_neg h2]
  by_cases h3 : b = 45
  · subst h3; exact .inr ⟨3, by decide, rfl, rfl⟩
  rw [if_neg h3]
  refine .inl ⟨rfl, fun h => ?_⟩
  simp only [keys, List.mem_cons, List.not_mem_nil, or_false] at h
  rcases h with h | h | h | h
  · exact h0 (UInt8.toNat_inj.1 (by rw [h]; rfl))
  · exact h1 (UInt8.toNat_inj.1 (by rw [h]; rfl))
  · exact h2 (UInt8.toNat_inj.1 (by rw [h]; rfl))
  · exact h3 (UInt8.toNat_inj.1 (by rw [h]; rfl))
theorem After.size {t103 R A : Nat} {w w' : World} (h : After t103 R A w w') : w.heap.size + 1 < w'.heap.size := by
  obtain ⟨wx, hx, rfl⟩ := h
  rw [World.size_setCell, World.size_setCell, World.size_drew, World.size_setCell, World.size_setCell]
  exact hx.big
theorem After.cells {t103 R A : Nat} {w w' : World} (hR : R < w.heap.size) (h : After t103 R A w w') : ∃ wx, BInv (locked R w) A w.heap.size (w.heap.size + 1) 0 wx ∧ wx.heap.size = w'.heap.size ∧ ∀ b j, b ≠ R → w'.cell? ⟨b, j, none⟩ = wx.cell? ⟨b, j, none⟩ := by
  obtain ⟨wx, hx, rfl⟩ := h
  refine ⟨wx, hx, ?_, fun b j hb => ?_⟩
  · rw [World.size_setCell, World.size_setCell, World.size_drew, World.size_setCell, World.size_setCell]
  · rw [World.cell?_setCell_far _ _ _ _ (fun e => hb e.symm), World.cell?_setCell_far _ _ _ _ (fun e => hb e.symm), World.cell?_drew, World.cell?_setCell_far _ _ _ _ (fun e => hb e.symm), World.cell?_setCell_far _ _ _ _ (fun e => hb e.symm)]
theorem After.table {t103 R A : Nat} {w w' : World} (hR : R < w.heap.size) (h : After t103 R A w w') : Table (w.heap.size + 1) w' := by
  obtain ⟨wx, hx, hs, hc⟩ := h.cells hR
  refine ⟨h.size, ⟨⟨w.heap.size, 0, none⟩, ?_⟩, fun b hb => ?_, fun b l hb => ?_⟩
  · rw [hc _ _ (by omega)]; exact hx.t256
  · rw [hc _ _ (by omega)]
    rcases rep_eq b with ⟨_, h2⟩ | ⟨i, _, _, h3⟩
    · exact hx.todo _ b.toNat_lt h2
    · rw [hb] at h3; cases h3
  · rcases rep_eq b with ⟨h1, _⟩ | ⟨i, hi, hk, h3⟩
    · rw [hb] at h1; cases h1
    · rw [hb] at h3
      injection h3 with h3
      subst h3
      obtain ⟨k, c, q1, q2, q3, q4⟩ := hx.done i (Nat.zero_le _) hi
      refine ⟨k, c, ?_, by omega, fun j u hj => ?_⟩
      · rw [hc _ _ (by omega), hk]; exact q1
      · rw [hc _ _ (by omega)]; exact q4 j u hj
theorem After.below {n t103 R A : Nat} {w0 w w' : World} (hb : Below n w0 w) (hn : n ≤ R) (hR : R < w.heap.size) (h : After t103 R A w w') : Below n w0 w' := by
  obtain ⟨wx, hx, rfl⟩ := h
  have h1 : Below n w0 (locked R w) := Below.setCell hb hn _
  have h2 : Below n w0 wx := h1.trans (hx.below.mono (by rw [World.size_setCell]; omega))
  exact Below.setCell (Below.setCell (Below.drew (Below.setCell (Below.setCell h2 hn _) hn _)) hn _) hn _
theorem After.iface {t103 R A G : Nat} {w w' : World} (hf : Fresh R A G w) (h : After t103 R A w w') : w'.cell? ⟨R, 3, none⟩ = some (.iface t103 (.pointer (some ⟨w.heap.size + 1, 0, none⟩))) := by
  obtain ⟨wx, hx, rfl⟩ := h
  rw [sc_ne (by omega), sc_ne (by omega), World.cell?_drew, sc_ne (by omega)]
  refine sc_eq (u := .nilIface) ?_
  rw [hx.below.cell (by rw [World.size_setCell]; exact hf.hR), sc_ne (by omega)]
  exact hf.r3
abbrev strs8 : List Value := [.string ⟨#[48]⟩, .string ⟨#[111]⟩, .string ⟨#[49]⟩, .string ⟨#[108]⟩, .string ⟨#[53]⟩, .string ⟨#[115]⟩, .string ⟨#[45]⟩, .string ⟨#[]⟩]
theorem fresh_of (w1 : World) (G t9 t83 : Nat) (hG : 8 ≤ G) (z : Array Value) :
    Fresh (w1.heap.size + 1) w1.heap.size G ((w1.drew.alloc (.cells (strs8.toArray ++ z) t9)).alloc (.cells #[.int .u32 0, .int .i32 0, .int .u32 0, .nilIface, .slice (some ⟨w1.heap.size, 0, none⟩) 8 G] t83)) := by
  have hs : (w1.drew.alloc (.cells (strs8.toArray ++ z) t9)).heap.size = w1.heap.size + 1 := by rw [World.size_alloc, World.size_drew]
  have r : ∀ j, ((w1.drew.alloc (.cells (strs8.toArray ++ z) t9)).alloc (.cells #[.int .u32 0, .int .i32 0, .int .u32 0, .nilIface, .slice (some ⟨w1.heap.size, 0, none⟩) 8 G] t83)).cell? ⟨w1.heap.size + 1, j, none⟩ = (#[.int .u32 0, .int .i32 0, .int .u32 0, .nilIface, .slice (some ⟨w1.heap.size, 0, none⟩) 8 G] : Array Value)[j]? := fun j => World.cell?_alloc_at _ _ _ _ hs.symm
  have c : ∀ j, j < 8 → ((w1.drew.alloc (.cells (strs8.toArray ++ z) t9)).alloc (.cells #[.int .u32 0, .int .i32 0, .int .u32 0, .nilIface, .slice (some ⟨w1.heap.size, 0, none⟩) 8 G] t83)).cell? ⟨w1.heap.size, j, none⟩ = strs8[j]? := fun j hj => by
    rw [World.cell?_alloc_past _ _ _ (by omega)]
    have := World.cell?_alloc_at (w := w1.drew) (strs8.toArray ++ z) t9 w1.heap.size j rfl
    rw [this, Array.getElem?_append_left (by simpa using hj)]
    simp
  refine ⟨by rw [World.size_alloc]; omega, by rw [World.size_alloc]; omega, by omega, hG, r 0, r 1, r 3, r 4, fun j => World.frozen?_alloc_at _ _ _ _ hs.symm, c 0 (by omega), c 1 (by omega), c 2 (by omega), c 3 (by omega), c 4 (by omega), c 5 (by omega), c 6 (by omega), c 7 (by omega)⟩
theorem plain_out (b : UInt8) : ((plainB (b.toNat : Int)).toList).map (fun n => UInt8.ofNat n.toNat) = outOf b := by
  unfold plainB outOf rep
  by_cases h0 : b = 48
  · subst h0; rfl
  by_cases h1 : b = 49
  · subst h1; rfl
  by_cases h2 : b = 53
  · subst h2; rfl
  by_cases h3 : b = 45
  · subst h3; rfl
  have e : ∀ c : UInt8, b ≠ c → ((b.toNat : Int) == (c.toNat : Int)) = false := fun c h => by
    refine beq_eq_false_iff_ne.2 (fun q => h (UInt8.toNat_inj.1 (by omega)))
  have e0 : ((b.toNat : Int) == 48) = false := e 48 h0
  have e1 : ((b.toNat : Int) == 49) = false := e 49 h1
  have e2 : ((b.toNat : Int) == 53) = false := e 53 h2
  have e3 : ((b.toNat : Int) == 45) = false := e 45 h3
  rw [e0, e1, e2, e3, if_neg h0, if_neg h1, if_neg h2, if_neg h3]
  simp
theorem plain_flat : ∀ l : List UInt8, ((l.map fun b => (b.toNat : Int)).filterMap plainB).map (fun n => UInt8.ofNat n.toNat) = l.flatMap outOf
  | [] => rfl
  | b :: l => by
    have h := plain_out b
    rw [List.map_cons, List.flatMap_cons, ← plain_flat l, ← h, List.filterMap_cons]
    cases plainB (b.toNat : Int) with
    | none => rfl
    | some x => rfl
theorem plain_is (s : ByteArray) : (⟨(s.data.toList.flatMap outOf).toArray⟩ : ByteArray) = plainOf s := by
  unfold plainOf strOfNums Go.Proofs.YtcmjbplnjjdcdaaGreatW.PrintWords.bytesOf
  rw [plain_flat]
theorem post_str {w w' : World} {ok : Nat → Prop} {s : ByteArray} (h : Below w.heap.size w w') : Post [(.str, .no)] w ok [⟨.str, s⟩] (.string s) w' := by
  refine ⟨⟨fun _ => 0, fun _ => .bool, fun _ => .slice none 0 0, fun _ => .bool, fun _ _ => False⟩, [.string s], h, rfl, ?_, fun j hj => (by cases hj), fun i hi => (by cases hi)⟩
  refine ⟨rfl, [.string s], [], rfl, VR_no.2 (fun W hW => rfl), trivial, rfl⟩
theorem said_str {P : Program} {f : Nat} {al : List AV} {s : ByteArray} {fn : Func} (hf : P.funcs[f]? = some fn) (hname : (fn.name == "runtime.NumGoroutine") = false) (hb : fn.body.isNone = false)
    (h : ∀ w ok vs, AVRs w ok al vs → Calls P f vs.toArray w fun e w' => e = .returned (.string s) ∧ Below w.heap.size w w') : Said P [(.str, .no)] f al [⟨.str, s⟩] := by
  refine ⟨⟨fn, hf, hname, hb⟩, fun w ok vs hav => (h w ok vs hav).mono ?_⟩
  rintro e w' ⟨rfl, hb⟩
  exact post_str hb
end Rpl
end Go.Proofs.YtcmjbplnjjdcdaaGreat.Ref

namespace Go.Proofs.YtcmjbplnjjdcdaaGreat.Ref
open Go.RowKit Go.Proofs.YtcmjbplnjjdcdaaGreatW.PrintWords Go.Proofs.YtcmjbplnjjdcdaaGreatW.PrintLast

def putD (l : List Int) : List TEntry × TEntry := ((anyEs (newC l)).2, (anyE (anyEs (newC l)).1).2)
def findD (l : List Int) : List TEntry × ByteArray := ((anyEs (newC l)).2, (anyL (anyEs (newC l)).1).2)
theorem putD_le (l : List Int) : wEs (putD l).1 ≤ 500 ∧ wE (putD l).2 ≤ 100 := by
  refine ⟨anyEs_w _, ?_⟩
  have h := anyE_le (anyEs (newC l)).1
  show wE (anyE (anyEs (newC l)).1).2 ≤ 100
  unfold wE
  omega
theorem findD_le (l : List Int) : wEs (findD l).1 ≤ 500 ∧ (findD l).2.size ≤ 9 := ⟨anyEs_w _, anyL_le _⟩
theorem alike_ok {x : List TEntry} {s : ByteArray} {j : Nat} (hj : j < (alikeIn x s).length) :
    eqStr ((alikeIn x s).getD j ByteArray.empty) s = false ∧ looksLike ((alikeIn x s).getD j ByteArray.empty) s = true ∧ ((alikeIn x s).getD j ByteArray.empty).size ≤ 8 := by
  have hm : (alikeIn x s).getD j ByteArray.empty ∈ alikeIn x s := getD_mem hj
  generalize (alikeIn x s).getD j ByteArray.empty = y at hm
  unfold alikeIn at hm
  obtain ⟨e, _, he⟩ := List.mem_filterMap.1 hm
  unfold alikeOf at he
  cases h1 : eqStr e.1 s with
  | true => rw [h1] at he; cases he
  | false =>
    cases h2 : looksLike e.1 s with
    | false => rw [h1, h2] at he; cases he
    | true =>
      rw [h1, h2] at he
      injection he with he
      subst he
      refine ⟨h1, h2, label8 ?_⟩
      unfold looksLike at h2
      exact ((Bool.and_eq_true _ _).mp h2).1
theorem put_found {l : List TEntry} {e : TEntry} (h : areEntries (putAs l e) = true) : findEntry (putAs l e) e.1 = (bsAt l e.1 : Int) := by
  obtain ⟨h1, h2⟩ := put_there l e
  have := find_at (inOrder h) h1
  rw [h2] at this
  exact this
theorem put_kept {l : List TEntry} {e : TEntry} (h : areEntries (putAs l e) = true) {i : Nat} (hi : i < l.length) :
    ∃ j : Nat, j < (putAs l e).length ∧ findEntry (putAs l e) (at' l i).1 = (j : Int) ∧ (eqStr (at' l i).1 e.1 = true ∨ at' (putAs l e) j = at' l i) := by
  obtain ⟨j, h1, h2, h3⟩ := put_stays e hi
  refine ⟨j, h1, ?_, ?_⟩
  · rw [← h2]; exact find_at (inOrder h) h1
  · cases hq : eqStr (at' l i).1 e.1 with
    | true => exact .inl rfl
    | false =>
      refine .inr (h3 (fun c => ?_))
      rw [c, eqStr_refl] at hq
      cases hq
theorem put_drop {l : List TEntry} {e : TEntry} (h : areEntries (putAs l e) = true) : dropE (putAs l e) e.1 = ((putAs l e).eraseIdx (bsAt l e.1), true) ∧ findEntry ((putAs l e).eraseIdx (bsAt l e.1)) e.1 = -1 ∧ ((putAs l e).eraseIdx (bsAt l e.1)).length = (putAs l e).length - 1 ∧ 0 < (putAs l e).length := by
  obtain ⟨h1, h2⟩ := put_there l e
  have a := drop_ok h h1
  have b := drop_gone (inOrder h) h1
  rw [h2] at a b
  exact ⟨a, b, List.length_eraseIdx_of_lt h1, by omega⟩
end Go.Proofs.YtcmjbplnjjdcdaaGreat.Ref
