/- The proof system: an abstract machine over data, and that what it computes the code computes.
   Conditions: as each theorem states. -/
import Derived.Test.YthegggkfngnehaaK3
import Derived.Lib.SliceRun
import Derived.Lib.SlicesDelete
import Derived.Deep.RegionLaw
import Derived.Deep.LoopGhost
import Derived.Lib.Walk
import Derived.WalkKit
import Derived.Shelf.RegionOpenPlain
import Derived.Sort.WalkB12
set_option linter.unusedVariables false
set_option linter.unusedSimpArgs false
namespace Go.Proofs.Ythegggkfngnehaa.Ref
open Go.RowKit Go.Proofs.YthegggkfngnehaaW.PrintWords Go.Proofs.YthegggkfngnehaaW.PrintLast

abbrev cellOf (v : Value) : Value := v
section
variable {α : Type} {d : Kd α} {e blk cap i : Nat} {w w' : World} {ok : Nat → Prop} {xs : List α} {cur cur' : Array Value}
theorem chunk_del {inner : List Value} {sz n i j : Nat} (hl : inner.length = n * sz) (hi : i < n) (hj : j < n - 1) :
    ((inner.take (i * sz) ++ inner.drop ((i + 1) * sz)).drop (j * sz)).take sz = (inner.drop ((if j < i then j else j + 1) * sz)).take sz := by
  have h1 : (i + 1) * sz = i * sz + sz := Nat.succ_mul i sz
  have h2 : (j + 1) * sz = j * sz + sz := Nat.succ_mul j sz
  have h3 : (i + 1) * sz ≤ n * sz := Nat.mul_le_mul_right sz hi
  apply List.ext_getElem?
  intro t
  rw [List.getElem?_take, List.getElem?_take]
  by_cases ht : t < sz
  · rw [if_pos ht, if_pos ht, List.getElem?_drop, List.getElem?_drop, List.getElem?_append, List.length_take]
    by_cases hji : j < i
    · have h4 : (j + 1) * sz ≤ i * sz := Nat.mul_le_mul_right sz hji
      rw [if_pos hji, if_pos (by omega), List.getElem?_take, if_pos (by omega)]
    · have h4 : i * sz ≤ j * sz := Nat.mul_le_mul_right sz (by omega)
      rw [if_neg hji, if_neg (by omega), List.getElem?_drop]
      congr 1
      omega
  · rw [if_neg ht, if_neg ht]
theorem row_del (h : Kd.S d e w 0 ok (.slice (some ⟨blk, 0, none⟩) xs.length cap) xs) (hi : i < xs.length) (hg : w.heap[blk]? = some (.cells cur e (0, 0))) (hw : ∀ k, k ≠ blk → k < w.heap.size → w'.heap[k]? = w.heap[k]?)
    (hb : w'.heap[blk]? = some (.cells cur' e (0, 0))) (hs : cur'.size = cur.size) (htk : cur'.toList.take ((xs.length - 1) * d.sz) = (cur.toList.take (xs.length * d.sz)).take (i * d.sz) ++ (cur.toList.take (xs.length * d.sz)).drop ((i + 1) * d.sz)) :
    Kd.S d e w' 0 ok (.slice (some ⟨blk, 0, none⟩) (xs.length - 1) cap) (xs.eraseIdx i) := by
  obtain ⟨f, h⟩ := h
  have hbd := Kd.R_bound h
  obtain ⟨h0, inner, ho, hr⟩ := hbd
  have h0' := h.1
  rw [List.length_zipIdx] at ho
  rcases ho.2 with ⟨h1, _⟩ | ⟨g', cap', cur0, hv, hbase, hgb, q1, q2, q3, q4⟩
  · cases h1
  injection hv with z1 _ z3
  injection z1 with z1
  injection z1 with z1
  subst z1
  subst z3
  rw [hg] at hgb
  injection hgb with hgb
  injection hgb with hgb
  subst hgb
  have hl : (xs.eraseIdx i).length = xs.length - 1 := List.length_eraseIdx_of_lt hi
  have hq3 : cur.size = cap * d.sz := q3
  have hle : xs.length * d.sz ≤ cap * d.sz := Nat.mul_le_mul_right d.sz q1
  have q4' : cur.toList.take (xs.length * d.sz) = inner := q4
  have hil : inner.length = xs.length * d.sz := by have h6 : cur.toList.length = cur.size := Array.length_toList; rw [← q4', List.length_take]; omega
  rw [q4'] at htk
  have h3 : (i + 1) * d.sz ≤ xs.length * d.sz := Nat.mul_le_mul_right d.sz hi
  have h4 : (i + 1) * d.sz = i * d.sz + d.sz := Nat.succ_mul i d.sz
  have h5 : xs.length * d.sz = (xs.length - 1) * d.sz + d.sz := by rw [← Nat.succ_mul]; congr 1; omega
  have hil' : (inner.take (i * d.sz) ++ inner.drop ((i + 1) * d.sz)).length = (xs.length - 1) * d.sz := by
    rw [List.length_append, List.length_take, List.length_drop]
    omega
  refine ⟨fun k => if f k < i then f k else if f k = i then xs.length else f k - 1, h0', inner.take (i * d.sz) ++ inner.drop ((i + 1) * d.sz), ⟨?_, .inr ⟨blk, cap, cur', ?_, Nat.zero_le _, hb, ?_, q2, hs.trans q3, ?_⟩⟩, ?_, fun j p hj => ?_⟩
  · rw [List.length_zipIdx, hl]; exact hil'
  · rw [List.length_zipIdx, hl]
  · rw [List.length_zipIdx, hl]; omega
  · rw [List.length_zipIdx, hl]; exact htk
  · rw [List.length_zipIdx, hl]; exact hil'
  · obtain ⟨y, hy, rfl⟩ := zipIdx_at hj
    have hjl : j < xs.length - 1 := by rw [← hl]; exact (List.getElem?_eq_some_iff.1 hy).1
    rw [List.getElem?_eraseIdx] at hy
    have hxy : xs[if j < i then j else j + 1]? = some y := by
      by_cases c : j < i
      · rw [if_pos c] at hy ⊢; exact hy
      · rw [if_neg c] at hy ⊢; exact hy
    have hM := hr.2 (if j < i then j else j + 1) (y, if j < i then j else j + 1) (Kd.zip_at hxy)
    show d.M w' 0 _ y _
    rw [show ((inner.take (i * d.sz) ++ inner.drop ((i + 1) * d.sz)).drop (j * (Kd.tag _ d).sz)).take (Kd.tag _ d).sz = _ from chunk_del (sz := d.sz) hil hi hjl]
    have hM : d.M w 0 _ y ((inner.drop ((if j < i then j else j + 1) * d.sz)).take d.sz) := hM
    refine d.M_mono (fun k hk => ?_) (d.M_move (w1 := w') (fun k hk => ?_) hM)
    · obtain ⟨⟨⟨hk1, hk2, hk3, _⟩, hk4⟩, hk5⟩ := hk
      refine ⟨⟨hk1, hk4⟩, ?_⟩
      have hk5 : f k = if j < i then j else j + 1 := hk5
      show (if f k < i then f k else if f k = i then xs.length else f k - 1) = 0 + j
      rw [Nat.zero_add]
      by_cases c : j < i
      · rw [if_pos c] at hk5
        rw [if_pos (by omega), hk5]
      · rw [if_neg c] at hk5
        rw [if_neg (by omega), if_neg (by omega), hk5]
        omega
    · obtain ⟨⟨⟨hk1, hk2, hk3, _⟩, hk4⟩, hk5⟩ := hk
      exact hw k (fun e => hk4 (by rw [e]; rfl)) hk3
end
/-- What the library's Delete does to the cells of a row of elements of size sz, one element taken out. -/
def DelC (P : Program) (f sz : Nat) : Prop := ∀ (blk cap n i : Nat) (d : Array Value) (w : World), Go.Sort.Holds cellOf w blk 0 d → d.size = n * sz → (∀ v ∈ d.toList, v.oneCell' = true) → i < n → n ≤ cap → cap ≤ 9223372036854775807 → blk < w.heap.size →
  Calls P f #[.slice (some ⟨blk, 0, none⟩) n cap, .int .i64 i, .int .i64 ((i + 1 : Nat) : Int)] w fun e w' => e = .returned (.slice (some ⟨blk, 0, none⟩) (n - 1) cap) ∧
    ∃ (q : Nat) (D : Array Value), w' = Go.Sort.putRow cellOf (Go.Sort.ahead w q) blk 0 D ∧ D.size = n * sz ∧ D.toList.take ((n - 1) * sz) = d.toList.take (i * sz) ++ d.toList.drop ((i + 1) * sz)
theorem avr_i64 {w : World} {ok : Nat → Prop} {n : Int} {v : Value} {g : Gh} (h : AVRg g w ok (.val (.int .i64) n) v) : v = .int .i64 n := by
  obtain ⟨cs, e, h⟩ := h
  have : cs = [.int .i64 n] := Foot.now h
  rw [e, this]; rfl
theorem delete_said {P : Program} {f e i : Nat} {t : Ty} (hs : Stands P f) (hc : DelC P f t.kd.sz) {u : List t.den} (hi : i < u.length) :
    SaidX P [(.slice e t, .own 0)] f [.lend (.slice e t) u (.own 0), .val (.int .i64) (i : Int), .val (.int .i64) ((i + 1 : Nat) : Int)] [⟨.slice e t, u.eraseIdx i⟩] := by
  refine ⟨hs, fun w ok vs gm hav hlo hsep => ?_⟩
  obtain ⟨v, vs', rfl, ⟨_, cs, rfl, hv, hown⟩, v1, vs1, rfl, h1, v2, vs2, rfl, h2, hvs'⟩ := hav
  have hvs' : vs2 = [] := hvs'
  subst hvs'
  have h1 := avr_i64 h1
  have h2 := avr_i64 h2
  subst h1
  subst h2
  simp only [VR] at hv
  obtain ⟨hcs, _⟩ := hv
  subst hcs
  obtain ⟨hσ, hS⟩ := hown
  have hR := Kd.S_R hS
  obtain ⟨h0, inner, ho, hr⟩ := hR
  have harg : valOf (.slice e t) [gm.ρ 0] = gm.ρ 0 := rfl
  rw [harg]
  have hX : ∀ b, (gm.ρ 0).ownBlock = some b → LentS gm (avIds [.lend (.slice e t) u (.own 0), .val (.int .i64) (i : Int), .val (.int .i64) ((i + 1 : Nat) : Int)]) b := fun b hb => ⟨0, List.mem_singleton.2 rfl, h0 b hb⟩
  have hlt : ∀ k, gm.S 0 k → k < w.heap.size := (hlo.1 0 (List.mem_singleton.2 rfl)).2
  have ho2 := ho
  rcases ho2.2 with ⟨hnil, hn⟩ | ⟨blk, cap, cur, e1, hbase, hg, q1, q2, q3, q4⟩
  · omega
  have hbl : blk < w.heap.size := by
    rcases Nat.lt_or_ge blk w.heap.size with h | h
    · exact h
    · rw [Array.getElem?_eq_none h] at hg; cases hg
  have hle : u.length * t.kd.sz ≤ cap * t.kd.sz := Nat.mul_le_mul_right _ q1
  have hil : inner.length = u.length * t.kd.sz := ho.1
  have hH : Go.Sort.Holds cellOf w blk 0 inner.toArray := by
    intro j hj
    have hj : j < inner.length := by simpa using hj
    refine ⟨?_, by simp [World.frozen?, hg]⟩
    have h3 : (cur.toList.take (u.length * t.kd.sz))[j]? = inner[j]? := by rw [q4]
    rw [List.getElem?_take, if_pos (by omega), Array.getElem?_toList] at h3
    rw [getElem!_pos _ j (by simpa using hj)]
    simp only [World.cell?, hg, Nat.zero_add]
    rw [List.getElem?_eq_getElem hj] at h3
    simpa [cellOf] using h3
  have h1c : ∀ v ∈ inner.toArray.toList, v.oneCell' = true := by
    intro v hv
    obtain ⟨j, hj, rfl⟩ := List.getElem_of_mem (show v ∈ inner from by simpa using hv)
    have hsz : 0 < t.kd.sz := by
      rcases Nat.eq_zero_or_pos t.kd.sz with h | h
      · rw [h, Nat.mul_zero] at hil; omega
      · exact h
    have hjl : j / t.kd.sz < u.length := Nat.div_lt_of_lt_mul (by rw [Nat.mul_comm, ← hil]; exact hj)
    obtain ⟨x, hx⟩ : ∃ x, u[j / t.kd.sz]? = some x := ⟨_, List.getElem?_eq_getElem hjl⟩
    have hM := t.kd.K_of_M (hr.2 _ _ hx)
    refine t.kd.K_one hM _ (List.mem_iff_getElem?.2 ⟨j % t.kd.sz, ?_⟩)
    have hm : j % t.kd.sz < t.kd.sz := Nat.mod_lt _ hsz
    rw [List.getElem?_take, if_pos hm, List.getElem?_drop, show j / t.kd.sz * t.kd.sz + j % t.kd.sz = j from by rw [Nat.mul_comm]; exact Nat.div_add_mod j _]
    exact List.getElem?_eq_getElem hj
  rw [e1]
  refine Calls.mono (hc blk cap u.length i inner.toArray w hH (by simpa using hil) h1c hi q1 q2 hbl) ?_
  rintro e2 w' ⟨rfl, q, D, rfl, hD, htk⟩
  have hcur : (Go.Sort.putRow cellOf (Go.Sort.ahead w q) blk 0 D).heap[blk]? = some (.cells (Go.Sort.putCells cellOf 0 D cur) e (0, 0)) := by
    simp [Go.Sort.putRow, Go.Sort.mapBlock, Go.Sort.ahead, Array.getElem?_modify, hg, Go.Sort.onCells]
  have hoth : ∀ k, k ≠ blk → k < w.heap.size → (Go.Sort.putRow cellOf (Go.Sort.ahead w q) blk 0 D).heap[k]? = w.heap[k]? := by
    intro k hk _
    simp [Go.Sort.putRow, Go.Sort.mapBlock, Go.Sort.ahead, Array.getElem?_modify, hk.symm]
  have hsize : w.heap.size ≤ (Go.Sort.putRow cellOf (Go.Sort.ahead w q) blk 0 D).heap.size := by simp [Go.Sort.putRow, Go.Sort.mapBlock, Go.Sort.ahead]
  have hpc : ∀ m, m ≤ D.size → (Go.Sort.putCells cellOf 0 D cur).toList.take m = D.toList.take m := by
    intro m hm
    have hq3 : cur.size = cap * t.kd.sz := q3
    apply List.ext_getElem?
    intro j
    rw [List.getElem?_take, List.getElem?_take]
    by_cases hj : j < m
    · rw [if_pos hj, if_pos hj, Array.getElem?_toList, Array.getElem?_toList]
      have h5 : j < cur.size := by omega
      have h6 : j < D.size := by omega
      simp [Go.Sort.putCells, h5, h6, cellOf]
    · rw [if_neg hj, if_neg hj]
  have hnew : Kd.S t.kd e (Go.Sort.putRow cellOf (Go.Sort.ahead w q) blk 0 D) 0 (gm.S 0) (.slice (some ⟨blk, 0, none⟩) (u.length - 1) cap) (u.eraseIdx i) := by
    refine row_del (i := i) (cur := cur) (cur' := Go.Sort.putCells cellOf 0 D cur) (w := w) (by rw [← e1]; exact hS) hi hg hoth hcur (by simp [Go.Sort.putCells]) ?_
    rw [hpc _ (by rw [hD]; exact Nat.mul_le_mul_right _ (by omega)), htk, q4]
  refine ⟨_, { gm with ρ := fun _ => .slice (some ⟨blk, 0, none⟩) (u.length - 1) cap }, [_], rfl, rfl, rfl, rfl, hsize, fun k hk hnk _ => hoth k (fun e3 => hnk (by rw [e3]; exact hX blk (by rw [e1]; rfl))) hk, rfl, ⟨rfl, [_], [], rfl, ?_, ⟨hσ, hnew⟩, rfl⟩, fun j hj => ?_, fun i hi j hj hne => ?_⟩
  · simp only [VR]
    trivial
  · have := List.mem_singleton.1 hj
    subst this
    exact ⟨rfl, fun k hk => ⟨.inl ⟨0, List.mem_singleton.2 rfl, hk⟩, Nat.lt_of_lt_of_le (hlt k hk) hsize⟩⟩
  · exact (hne ((List.mem_singleton.1 hi).trans (List.mem_singleton.1 hj).symm)).elim
end Go.Proofs.Ythegggkfngnehaa.Ref

namespace Go.Proofs.Ythegggkfngnehaa.Ref
open Go.RowKit Go.Proofs.YthegggkfngnehaaW.PrintWords Go.Proofs.YthegggkfngnehaaW.PrintLast

/-- 'clear' of one element. -/
theorem run_clear_one {P : Program} (w : World) (t e ty : TypeId) (z : Value) (ht : P.underlying t = some (.slice e)) (hv : ∀ w, (zeroValue e).run P w = .ok z w) (h1 : ∀ v ∈ z.cells.toList, v.oneCell' = true) (b o c : Nat)
    (hc : ∀ j, j < z.cells.size → (w.cell? ⟨b, o + j, none⟩).isSome = true) (hf : ∀ j, j < z.cells.size → w.frozen? ⟨b, o + j, none⟩ = false) :
    (Builtin.clear_ #[t] ty #[.slice (some ⟨b, o, none⟩) 1 c]).run P w = .ok (.tuple #[]) (w.setCells b o z.cells.toList) := by
  have hzc : (Builtin.zeroCells z.cells 1).toList = z.cells.toList := by
    apply List.ext_getElem
    · simp [Builtin.zeroCells]
    · intro i h1 h2
      have h2 : i < z.cells.size := by simpa using h2
      simp [Builtin.zeroCells, Nat.mod_eq_of_lt h2, h2]
  have hst := run_storeCells_cells (P := P) b o z.cells.toList 0 w (by simpa using hc) (by simpa using hf) h1
  simp only [Nat.add_zero] at hst
  simp [Builtin.clear_, run_underlying ht, hv, hzc, hst]
theorem idxFrom_in {α : Type} {p : α → Bool} : ∀ (l : List α) (k : Nat), ¬ (idxFrom p k l < 0) → ∃ j, j < l.length ∧ idxFrom p k l = ((k + j : Nat) : Int)
  | [], k, h => (h (by show (-1 : Int) < 0; decide)).elim
  | x :: l, k, h => by
    cases hp : p x with
    | true => exact ⟨0, by simp, by unfold idxFrom; rw [hp]; rfl⟩
    | false =>
      have e : idxFrom p k (x :: l) = idxFrom p (k + 1) l := by
        show cond (p x) _ _ = _
        rw [hp]
        rfl
      rw [e] at h ⊢
      obtain ⟨j, h1, h2⟩ := idxFrom_in l (k + 1) h
      exact ⟨j + 1, by simp; omega, by rw [h2]; congr 1; omega⟩
theorem find_in {l : List TEntry} {s : ByteArray} (h : decide (findEntry l s < 0) = false) : ∃ j : Nat, j < l.length ∧ findEntry l s = (j : Int) := by
  obtain ⟨j, h1, h2⟩ := idxFrom_in l 0 (of_decide_eq_false h)
  exact ⟨j, h1, by rw [Nat.zero_add] at h2; exact h2⟩
def dropE (l : List TEntry) (s : ByteArray) : List TEntry × Bool := cond (!areEntries l) (l, false) (cond (decide (findEntry l s < 0)) (l, false) (l.eraseIdx (findEntry l s).toNat, true))
theorem wEs_erase : ∀ (l : List TEntry) (i : Nat), wEs (l.eraseIdx i) ≤ wEs l
  | [], _ => Nat.le_refl _
  | x :: l, 0 => by rw [wEs_cons]; show wEs l ≤ _; omega
  | x :: l, i + 1 => by
    have := wEs_erase l i
    rw [wEs_cons]
    show wEs (x :: l.eraseIdx i) ≤ _
    rw [wEs_cons]
    omega
theorem dropE_w (l : List TEntry) (s : ByteArray) : wEs (dropE l s).1 ≤ wEs l := by
  unfold dropE
  cases (!areEntries l) with
  | true => exact Nat.le_refl _
  | false =>
    cases decide (findEntry l s < 0) with
    | true => exact Nat.le_refl _
    | false => exact wEs_erase _ _
theorem wEs_take (l : List TEntry) (i : Nat) : wEs (l.take i) ≤ wEs l := by
  have h := wEs_app (l.take i) (l.drop i)
  rw [List.take_append_drop] at h
  omega
theorem wEs_drop (l : List TEntry) (i : Nat) : wEs (l.drop i) ≤ wEs l := by
  have h := wEs_app (l.take i) (l.drop i)
  rw [List.take_append_drop] at h
  omega
theorem held_mkE1 {l : List TEntry} (h : cntE l ≤ 1099511627776) : heldE (mkE l 1) 1 = upI 1 (cntE l) := by
  have := held_mkE l 0 (by omega)
  rw [Nat.zero_add] at this
  exact this
end Go.Proofs.Ythegggkfngnehaa.Ref
