/- The proof system: an abstract machine over data, and that what it computes the code computes.
   Conditions: as each theorem states. -/
import Derived.Test.YtcmjbplnjjdcdaaK3
import Derived.Lib.SliceRun
import Derived.Lib.SlicesDelete
import Derived.Deep.RegionLaw
import Derived.Deep.LoopGhost
import Derived.Lib.Walk
import Derived.WalkKit
import Derived.Shelf.RegionOpenPlain
import Derived.Sort.WalkB12
import Derived.Shelf.Spec.SlicesInsert
import Derived.Lib.AppendZerosOnto
import Derived.Laws.NewBlocks
set_option linter.unusedVariables false
set_option linter.unusedSimpArgs false
namespace Go.Proofs.Ytcmjbplnjjdcdaa.Ref
open Go.RowKit Go.Proofs.YtcmjbplnjjdcdaaW.PrintWords Go.Proofs.YtcmjbplnjjdcdaaW.PrintLast

abbrev cellOf (v : Value) : Value := v
section
variable {α : Type} {d : Kd α} {e blk cap i : Nat} {w w' : World} {ok : Nat → Prop} {xs : List α} {cur cur' : Array Value}
end
theorem avr_i64 {w : World} {ok : Nat → Prop} {n : Int} {v : Value} {g : Gh} (h : AVRg g w ok (.val (.int .i64) n) v) : v = .int .i64 n := by
  obtain ⟨cs, e, h⟩ := h
  have : cs = [.int .i64 n] := Foot.now h
  rw [e, this]; rfl
end Go.Proofs.Ytcmjbplnjjdcdaa.Ref

namespace Go.Proofs.Ytcmjbplnjjdcdaa.Ref
open Go.RowKit Go.Proofs.YtcmjbplnjjdcdaaW.PrintWords Go.Proofs.YtcmjbplnjjdcdaaW.PrintLast

theorem held_mkE1 {l : List TEntry} (h : cntE l ≤ 1099511627776) : heldE (mkE l 1) 1 = upI 1 (cntE l) := by
  have := held_mkE l 0 (by omega)
  rw [Nat.zero_add] at this
  exact this
end Go.Proofs.Ytcmjbplnjjdcdaa.Ref

namespace Go.Proofs.Ytcmjbplnjjdcdaa.Ref
open Go.RowKit Go.Proofs.YtcmjbplnjjdcdaaW.PrintWords Go.Proofs.YtcmjbplnjjdcdaaW.PrintLast

theorem alloc_row (w : World) (o : Obj) : (w.alloc o).heap[w.heap.size]? = some o := by
  show (w.heap.push o)[w.heap.size]? = _
  simp
theorem alloc_old (w : World) (o : Obj) {k : Nat} (hk : k < w.heap.size) : (w.alloc o).heap[k]? = w.heap[k]? := by
  show (w.heap.push o)[k]? = _
  rw [Array.getElem?_push, if_neg (by omega)]
theorem alloc_size (w : World) (o : Obj) : w.heap.size ≤ (w.alloc o).heap.size := by
  show _ ≤ (w.heap.push o).size
  simp
theorem run_copy_wide {P : Program} (w : World) (dT sT ty elem : TypeId) (sz b o dLen dCap : Nat) (a : Addr) (sLen sCap : Nat) (cs : List Value)
    (hu : P.underlying dT = some (.slice elem)) (hs : (P.info? elem).map (·.size) = some sz) (hn : cs.length = Nat.min sLen dLen * sz)
    (hsrc : ∀ j v, cs[j]? = some v → w.cell? (a.add j) = some v) (hc : ∀ j, j < cs.length → (w.cell? ⟨b, o + j, none⟩).isSome = true) (hf : ∀ j, j < cs.length → w.frozen? ⟨b, o + j, none⟩ = false) (h1 : ∀ v ∈ cs, v.oneCell' = true) :
    (Builtin.copy_ #[dT, sT] ty #[.slice (some ⟨b, o, none⟩) dLen dCap, .slice (some a) sLen sCap]).run P w = .ok (goInt (Nat.min sLen dLen)) (w.setCells b o cs) := by
  have hfc := run_firstCells_some (P := P) w sz (Nat.min sLen dLen) a sLen sCap cs hn hsrc
  have hst := run_storeCells_cells (P := P) b o cs 0 w (by simpa using hc) (by simpa using hf) h1
  simp only [Nat.add_zero] at hst
  cases hq : P.info? elem with
  | none => simp [hq] at hs
  | some i =>
    have hi : i.size = sz := by simpa [hq] using hs
    simp [Builtin.copy_, run_underlying hu, Builtin.lenOf, sizeOf, typeInfo, hq, hi, hfc, hst]
theorem chunk_ins {inner vs : List Value} {sz n i j : Nat} (hl : inner.length = n * sz) (hv : vs.length = sz) (hi : i ≤ n) (hj : j < n + 1) :
    ((inner.take (i * sz) ++ vs ++ inner.drop (i * sz)).drop (j * sz)).take sz = if j = i then vs else (inner.drop ((if j < i then j else j - 1) * sz)).take sz := by
  have h3 : i * sz ≤ n * sz := Nat.mul_le_mul_right sz hi
  have hlt : (inner.take (i * sz)).length = i * sz := by rw [List.length_take]; omega
  apply List.ext_getElem?
  intro t
  rw [List.getElem?_take, List.getElem?_drop]
  by_cases ht : t < sz
  · rw [if_pos ht, List.append_assoc, List.getElem?_append, hlt]
    by_cases hji : j < i
    · have h4 : (j + 1) * sz ≤ i * sz := Nat.mul_le_mul_right sz hji
      have h2 : (j + 1) * sz = j * sz + sz := Nat.succ_mul j sz
      rw [if_pos (by omega), if_neg (by omega), if_pos hji, List.getElem?_take, if_pos (by omega), List.getElem?_take, if_pos ht, List.getElem?_drop]
    · have h4 : i * sz ≤ j * sz := Nat.mul_le_mul_right sz (by omega)
      rw [if_neg (by omega), List.getElem?_append, hv]
      by_cases e : j = i
      · subst e
        rw [if_pos (by omega), if_pos rfl]
        congr 1
        omega
      · have h5 : (i + 1) * sz ≤ j * sz := Nat.mul_le_mul_right sz (by omega)
        have h6 : (i + 1) * sz = i * sz + sz := Nat.succ_mul i sz
        have h7 : j * sz = (j - 1) * sz + sz := by rw [← Nat.succ_mul]; congr 1; omega
        rw [if_neg (by omega), if_neg e, if_neg hji, List.getElem?_drop, List.getElem?_take, if_pos ht, List.getElem?_drop]
        congr 1
        omega
  · rw [if_neg ht]
    by_cases e : j = i
    · rw [if_pos e, List.getElem?_eq_none (by omega)]
    · rw [if_neg e, List.getElem?_take, if_neg ht]
/-- What the library's Insert does to a row of elements of size sz, one element put in. -/
def InsC (P : Program) (f e sz : Nat) : Prop := ∀ (v : Value) (n i vb vc : Nat) (cs vs : List Value) (w : World), w.ownsRow 0 e sz v n cs → v.ownBlock ≠ some vb → w.ownsRow 0 e sz (.slice (some ⟨vb, 0, none⟩) 1 vc) 1 vs →
  (∀ u ∈ cs, u.oneCell' = true) → (∀ u ∈ vs, u.oneCell' = true) → i ≤ n → n ≤ 549755813888 →
  Calls P f #[v, .int .i64 i, .slice (some ⟨vb, 0, none⟩) 1 vc] w fun e' w' => ∃ v', e' = .returned v' ∧ (v'.ownBlock = v.ownBlock ∨ ∀ k, v'.ownBlock = some k → w.heap.size ≤ k) ∧ v'.oneCell' = true ∧ w.grownBy w' v.ownBlock ∧
    w'.ownsRow 0 e sz v' (n + 1) (cs.take (i * sz) ++ vs ++ cs.drop (i * sz))
theorem cells_one {α : Type} {d : Kd α} {w : World} {base : Nat} {ok : Nat → Prop} {e : Nat} {v : Value} {u : List α} {inner : List Value} (ho : inner.length = u.length * d.sz) (hr : Reps (d.M w base ok) d.sz u inner) : ∀ x ∈ inner, x.oneCell' = true := by
  intro x hx
  obtain ⟨j, hj, rfl⟩ := List.getElem_of_mem hx
  have hsz : 0 < d.sz := by
    rcases Nat.eq_zero_or_pos d.sz with h | h
    · rw [h, Nat.mul_zero] at ho; omega
    · exact h
  have hjl : j / d.sz < u.length := Nat.div_lt_of_lt_mul (by rw [Nat.mul_comm, ← ho]; exact hj)
  obtain ⟨y, hy⟩ : ∃ y, u[j / d.sz]? = some y := ⟨_, List.getElem?_eq_getElem hjl⟩
  refine d.K_one (d.K_of_M (hr.2 _ _ hy)) _ (List.mem_iff_getElem?.2 ⟨j % d.sz, ?_⟩)
  have hm : j % d.sz < d.sz := Nat.mod_lt _ hsz
  rw [List.getElem?_take, if_pos hm, List.getElem?_drop, show j / d.sz * d.sz + j % d.sz = j from by rw [Nat.mul_comm]; exact Nat.div_add_mod j _]
  exact List.getElem?_eq_getElem hj
theorem put_row {w : World} {b q e : Nat} {cur D : Array Value} (hg : w.heap[b]? = some (.cells cur e (0, 0))) (hs : D.size = cur.size) :
    (Go.Sort.putRow cellOf (Go.Sort.ahead w q) b 0 D).heap[b]? = some (.cells D e (0, 0)) ∧ w.grownBy (Go.Sort.putRow cellOf (Go.Sort.ahead w q) b 0 D) (some b) := by
  refine ⟨?_, rfl, rfl, rfl, by simp [Go.Sort.putRow, Go.Sort.mapBlock, Go.Sort.ahead], fun k _ hk => ?_⟩
  · have e1 : Go.Sort.putCells cellOf 0 D cur = D := by
      apply Array.ext_getElem?
      intro j
      by_cases hj : j < D.size
      · have h5 : j < cur.size := by omega
        simp [Go.Sort.putCells, h5, hj, cellOf]
      · have h5 : ¬ j < cur.size := by omega
        rw [Array.getElem?_eq_none (by simp [Go.Sort.putCells]; omega), Array.getElem?_eq_none (by omega)]
    simp [Go.Sort.putRow, Go.Sort.mapBlock, Go.Sort.ahead, Array.getElem?_modify, hg, Go.Sort.onCells, e1]
  · have : b ≠ k := fun e3 => hk (by rw [e3])
    simp [Go.Sort.putRow, Go.Sort.mapBlock, Go.Sort.ahead, Array.getElem?_modify, this]
theorem holds_cells {w : World} {b e : Nat} {cur : Array Value} (hg : w.heap[b]? = some (.cells cur e (0, 0))) : Go.Sort.Holds cellOf w b 0 cur := by
  intro j hj
  refine ⟨?_, by simp [World.frozen?, hg]⟩
  simp [World.cell?, hg, cellOf, hj]
theorem set_lay {w : World} {b : Nat} {d : Array Value} {xs : List Value} {k : Nat} (hk : k + xs.length ≤ d.size) : (Go.Sort.putRow cellOf w b 0 d).setCells b k xs = Go.Sort.putRow cellOf w b 0 (Go.Lib.lay d k xs) := by
  have := Go.Lib.putRow_setCells cellOf w b 0 xs d k hk
  rw [show xs.map cellOf = xs from List.map_id' xs, Nat.zero_add] at this
  exact this
theorem lay_at {d : Array Value} {k : Nat} {xs : List Value} (hk : k + xs.length ≤ d.size) (j : Nat) : (Go.Lib.lay d k xs)[j]? = if k ≤ j ∧ j < k + xs.length then xs[j - k]? else d[j]? := Go.Lib.lay_get? xs d k j hk
/-- One element written in between. -/
theorem lay_ins {d : Array Value} {cs vs : List Value} {sz n i : Nat} (hn : (n + 1) * sz ≤ d.size) (hc : cs.length = n * sz) (hv : vs.length = sz) (hi : i ≤ n) (hd : d.toList.take (i * sz) = cs.take (i * sz)) :
    (Go.Lib.lay (Go.Lib.lay d ((i + 1) * sz) (cs.drop (i * sz))) (i * sz) vs).toList.take ((n + 1) * sz) = cs.take (i * sz) ++ vs ++ cs.drop (i * sz) ∧
    (Go.Lib.lay (Go.Lib.lay d (i * sz) vs) ((i + 1) * sz) (cs.drop (i * sz))).toList.take ((n + 1) * sz) = cs.take (i * sz) ++ vs ++ cs.drop (i * sz) := by
  have h3 : i * sz ≤ n * sz := Nat.mul_le_mul_right sz hi
  have h1 : (i + 1) * sz = i * sz + sz := Nat.succ_mul i sz
  have h2 : (n + 1) * sz = n * sz + sz := Nat.succ_mul n sz
  have hlt : (cs.take (i * sz)).length = i * sz := by rw [List.length_take]; omega
  have hld : (cs.drop (i * sz)).length = n * sz - i * sz := by rw [List.length_drop]; omega
  have hd2 : ∀ t, t < i * sz → d[t]? = cs[t]? := by
    intro t ht
    have : (d.toList.take (i * sz))[t]? = (cs.take (i * sz))[t]? := by rw [hd]
    rw [List.getElem?_take, if_pos ht, List.getElem?_take, if_pos ht, Array.getElem?_toList] at this
    exact this
  have rhs : ∀ t, t < (n + 1) * sz → (cs.take (i * sz) ++ vs ++ cs.drop (i * sz))[t]? = if t < i * sz then cs[t]? else if t < (i + 1) * sz then vs[t - i * sz]? else (cs.drop (i * sz))[t - (i + 1) * sz]? := by
    intro t ht
    rw [List.append_assoc, List.getElem?_append, hlt]
    by_cases c1 : t < i * sz
    · rw [if_pos c1, if_pos c1, List.getElem?_take, if_pos c1]
    · rw [if_neg c1, if_neg c1, List.getElem?_append, hv]
      by_cases c2 : t < (i + 1) * sz
      · rw [if_pos (by omega), if_pos c2]
      · rw [if_neg (by omega), if_neg c2]
        congr 1
        omega
  have lr : (cs.take (i * sz) ++ vs ++ cs.drop (i * sz)).length = (n + 1) * sz := by
    rw [List.length_append, List.length_append, hlt, hv, hld]
    omega
  constructor
  · apply List.ext_getElem?
    intro t
    rw [List.getElem?_take]
    by_cases ht : t < (n + 1) * sz
    · rw [if_pos ht, rhs t ht, Array.getElem?_toList, lay_at (by rw [Go.Lib.lay_size]; omega), lay_at (by omega)]
      by_cases c1 : t < i * sz
      · rw [if_pos c1, if_neg (by omega), if_neg (by omega), hd2 t c1]
      · rw [if_neg c1]
        by_cases c2 : t < (i + 1) * sz
        · rw [if_pos c2, if_pos (by omega)]
        · rw [if_neg c2, if_neg (by omega), if_pos (by omega)]
    · rw [if_neg ht, List.getElem?_eq_none (by omega)]
  · apply List.ext_getElem?
    intro t
    rw [List.getElem?_take]
    by_cases ht : t < (n + 1) * sz
    · rw [if_pos ht, rhs t ht, Array.getElem?_toList, lay_at (by rw [Go.Lib.lay_size]; omega), lay_at (by omega)]
      by_cases c1 : t < i * sz
      · rw [if_pos c1, if_neg (by omega), if_neg (by omega), hd2 t c1]
      · rw [if_neg c1]
        by_cases c2 : t < (i + 1) * sz
        · rw [if_pos c2, if_neg (by omega), if_pos (by omega)]
        · rw [if_neg c2, if_pos (by omega)]
    · rw [if_neg ht, List.getElem?_eq_none (by omega)]
theorem row_ins {α : Type} {d : Kd α} {e i : Nat} {w w' : World} {ok0 ok1 ok' : Nat → Prop} {v v1 v' : Value} {xs : List α} {x : α} {cs vs : List Value}
    (h : Kd.S d e w 0 ok0 v xs) (h1 : Kd.R d e w 0 ok1 v1 [x]) (hdis : ∀ k, ok0 k → ¬ ok1 k) (hcs : w.ownsRow 0 e d.sz v xs.length cs) (hvs : w.ownsRow 0 e d.sz v1 1 vs) (hi : i ≤ xs.length)
    (hb : v'.ownBlock = v.ownBlock ∨ ∀ k, v'.ownBlock = some k → w.heap.size ≤ k) (hg : w.grownBy w' v.ownBlock) (hown : w'.ownsRow 0 e d.sz v' (xs.length + 1) (cs.take (i * d.sz) ++ vs ++ cs.drop (i * d.sz)))
    (hok : ∀ k, (ok0 k ∨ ok1 k) → k < w.heap.size → ok' k) (hv' : ∀ k, v'.ownBlock = some k → ok' k) :
    Kd.S d e w' 0 ok' v' (xs.insertIdx i x) := by
  classical
  obtain ⟨f, h⟩ := h
  have hv0 := h.1
  obtain ⟨_, inner, ho, hr⟩ := Kd.R_bound h
  obtain ⟨_, inner1, ho1, hr1⟩ := Kd.R_bound h1
  rw [List.length_zipIdx] at ho
  have same : ∀ {v : Value} {n : Nat} {a b : List Value}, w.ownsRow 0 e d.sz v n a → w.ownsRow 0 e d.sz v n b → a = b := by
    intro v n a b ha hb
    rcases ha.2 with ⟨e1, e2⟩ | ⟨g, cap, cur, e1, _, hg1, _, _, _, ht⟩
    · have ha1 := ha.1
      have hb1 := hb.1
      rw [e2, Nat.zero_mul] at ha1 hb1
      rw [List.length_eq_zero_iff.1 ha1, List.length_eq_zero_iff.1 hb1]
    · rcases hb.2 with ⟨e2, _⟩ | ⟨g', cap', cur', e2, _, hg2, _, _, _, ht'⟩
      · rw [e1] at e2; cases e2
      · rw [e1] at e2
        injection e2 with e2 _ _
        injection e2 with e2
        injection e2 with e2
        subst e2
        rw [hg1] at hg2
        injection hg2 with hg2
        injection hg2 with hg2
        rw [← ht, ← ht', hg2]
  have ei : inner = cs := same ho hcs
  subst ei
  have ho1' : w.ownsRow 0 e d.sz v1 1 inner1 := ho1
  have ei1 : inner1 = vs := same ho1' hvs
  subst ei1
  have hl : (xs.insertIdx i x).length = xs.length + 1 := List.length_insertIdx_of_le_length hi x
  have hil : inner.length = xs.length * d.sz := ho.1
  have hil1 : inner1.length = d.sz := by have := ho1'.1; omega
  refine ⟨fun k => if ok1 k then i else if f k < i then f k else f k + 1, hv', inner.take (i * d.sz) ++ inner1 ++ inner.drop (i * d.sz), by rw [List.length_zipIdx, hl]; exact hown, by rw [List.length_zipIdx, hl]; exact hown.1, fun j p hj => ?_⟩
  obtain ⟨y, hy, rfl⟩ := zipIdx_at hj
  have hjl : j < xs.length + 1 := by rw [← hl]; exact (List.getElem?_eq_some_iff.1 hy).1
  show d.M w' 0 _ y _
  rw [show ((inner.take (i * d.sz) ++ inner1 ++ inner.drop (i * d.sz)).drop (j * (Kd.tag _ d).sz)).take (Kd.tag _ d).sz = _ from chunk_ins (sz := d.sz) hil hil1 hi hjl]
  have heap : ∀ k, k < w.heap.size → some k ≠ v.ownBlock → w'.heap[k]? = w.heap[k]? := fun k h1 h2 => hg.block k h1 h2
  have apart : ∀ k, k < w.heap.size → some k ≠ v.ownBlock → some k ≠ v'.ownBlock := by
    intro k h1 h2 h3
    rcases hb with hb | hb
    · rw [hb] at h3; exact h2 h3
    · have := hb k h3.symm; omega
  by_cases e : j = i
  · subst e
    rw [if_pos rfl]
    rw [List.getElem?_insertIdx_self, if_pos hi] at hy
    injection hy with hy
    subst hy
    have hM := hr1.2 0 x rfl
    rw [Nat.zero_mul, List.drop_zero, List.take_of_length_le (by omega)] at hM
    have ne : ∀ k, ok1 k → some k ≠ v.ownBlock := fun k h2 h3 => hdis k (hv0 k h3.symm) h2
    refine d.M_mono (fun k hk => ?_) (d.M_move (w1 := w') (fun k hk => ?_) hM)
    · obtain ⟨⟨hk1, hk2, hk3, _⟩, hk4⟩ := hk
      refine ⟨⟨hok k (.inr hk1) hk3, apart k hk3 (ne k hk1)⟩, ?_⟩
      show (if ok1 k then j else _) = 0 + j
      rw [if_pos hk1, Nat.zero_add]
    · obtain ⟨⟨hk1, hk2, hk3, _⟩, hk4⟩ := hk
      exact heap k hk3 (ne k hk1)
  · rw [if_neg e]
    have hxy : xs[if j < i then j else j - 1]? = some y := by
      by_cases c : j < i
      · rw [List.getElem?_insertIdx_of_lt c] at hy
        rw [if_pos c]; exact hy
      · rw [List.getElem?_insertIdx_of_gt (by omega)] at hy
        rw [if_neg c]; exact hy
    have hM := hr.2 (if j < i then j else j - 1) (y, if j < i then j else j - 1) (Kd.zip_at hxy)
    have hM : d.M w 0 _ y ((inner.drop ((if j < i then j else j - 1) * d.sz)).take d.sz) := hM
    refine d.M_mono (fun k hk => ?_) (d.M_move (w1 := w') (fun k hk => ?_) hM)
    · obtain ⟨⟨⟨hk1, hk2, hk3, _⟩, hk4⟩, hk5⟩ := hk
      refine ⟨⟨hok k (.inl hk1) hk3, apart k hk3 hk4⟩, ?_⟩
      have hk5 : f k = if j < i then j else j - 1 := hk5
      show (if ok1 k then i else if f k < i then f k else f k + 1) = 0 + j
      rw [Nat.zero_add, if_neg (hdis k hk1)]
      by_cases c : j < i
      · rw [if_pos c] at hk5
        rw [if_pos (by omega), hk5]
      · rw [if_neg c] at hk5
        rw [if_neg (by omega), hk5]
        omega
    · obtain ⟨⟨⟨hk1, hk2, hk3, _⟩, hk4⟩, hk5⟩ := hk
      exact heap k hk3 hk4
theorem insert_said {P : Program} {f e i : Nat} {t : Ty} (hs : Stands P f) (hc : InsC P f e t.kd.sz) {u : List t.den} {x : t.den} (hi : i ≤ u.length) (hbig : u.length ≤ 549755813888) :
    SaidX P [(.slice e t, .own 0)] f [.lend (.slice e t) u (.own 0), .val (.int .i64) (i : Int), .lend (.slice e t) [x] (.own 1)] [⟨.slice e t, u.insertIdx i x⟩] := by
  refine ⟨hs, fun w ok vs gm hav hlo hsep => ?_⟩
  obtain ⟨v, vs', rfl, ⟨_, cs, rfl, hv, hown⟩, v1, vs1, rfl, h1, v2, vs2, rfl, ⟨_, cs2, rfl, hv2, hown2⟩, hvs'⟩ := hav
  have hvs' : vs2 = [] := hvs'
  subst hvs'
  have h1 := avr_i64 h1
  subst h1
  simp only [VR] at hv hv2
  obtain ⟨hcs, _⟩ := hv
  obtain ⟨hcs2, _⟩ := hv2
  subst hcs
  subst hcs2
  obtain ⟨hσ, hS⟩ := hown
  obtain ⟨hσ2, hS2⟩ := hown2
  have hS2 : Kd.S t.kd e w 0 (gm.S 1) (gm.ρ 1) [x] := hS2
  have hR := Kd.S_R hS
  have hR2 := Kd.S_R hS2
  obtain ⟨h0, inner, ho, hr⟩ := id hR
  obtain ⟨h02, inner2, ho2, hr2⟩ := id hR2
  have ids : avIds [.lend (.slice e t) u (.own 0), .val (.int .i64) (i : Int), .lend (.slice e t) [x] (.own 1)] = [0, 1] := rfl
  have hdis : ∀ k, gm.S 0 k → ¬ gm.S 1 k := hlo.2 0 (by rw [ids]; simp) 1 (by rw [ids]; simp) (by omega)
  have hlt : ∀ k, gm.S 0 k → k < w.heap.size := (hlo.1 0 (by rw [ids]; simp)).2
  have hlt1 : ∀ k, gm.S 1 k → k < w.heap.size := (hlo.1 1 (by rw [ids]; simp)).2
  rcases ho2.2 with ⟨_, hn⟩ | ⟨vb, vc, curv, e1, hbase, hgv, q1, q2, q3, q4⟩
  · cases hn
  have e1 : gm.ρ 1 = .slice (some ⟨vb, 0, none⟩) 1 vc := e1
  have harg : (valOf (.slice e t) [gm.ρ 0] :: .int .i64 (i : Int) :: valOf (.slice e t) [gm.ρ 1] :: []).toArray = #[gm.ρ 0, .int .i64 (i : Int), .slice (some ⟨vb, 0, none⟩) 1 vc] := by
    show #[gm.ρ 0, .int .i64 (i : Int), gm.ρ 1] = _
    rw [e1]
  rw [harg]
  have hvbS : gm.S 1 vb := h02 vb (by rw [e1]; rfl)
  have ho2' : w.ownsRow 0 e t.kd.sz (.slice (some ⟨vb, 0, none⟩) 1 vc) 1 inner2 := by rw [← e1]; exact ho2
  refine Calls.mono (hc (gm.ρ 0) u.length i vb vc inner inner2 w ho (fun h => hdis vb (h0 vb h) hvbS) ho2' (cells_one (v := gm.ρ 0) (e := e) ho.1 hr) (cells_one (v := gm.ρ 1) (e := e) ho2.1 hr2) hi hbig) ?_
  rintro e2 w' ⟨v', rfl, hb, hone, hgr, hown'⟩
  have hvlt : ∀ k, v'.ownBlock = some k → k < w'.heap.size := fun k hk => own_lt hown' k hk
  have hnew : Kd.S t.kd e w' 0 (fun k => (LentS gm [0, 1] k ∨ w.heap.size ≤ k) ∧ k < w'.heap.size) v' (u.insertIdx i x) := by
    refine row_ins (i := i) hS hR2 hdis ho ho2 hi hb hgr hown' (fun k hk hk2 => ?_) (fun k hk => ?_)
    · refine ⟨.inl ?_, Nat.lt_of_lt_of_le hk2 hgr.size⟩
      rcases hk with hk | hk
      · exact ⟨0, by simp, hk⟩
      · exact ⟨1, by simp, hk⟩
    · refine ⟨?_, hvlt k hk⟩
      rcases hb with hb | hb
      · rw [hb] at hk; exact .inl ⟨0, by simp, h0 k hk⟩
      · exact .inr (hb k hk)
  refine ⟨_, { gm with ρ := fun _ => v', S := fun _ k => (LentS gm [0, 1] k ∨ w.heap.size ≤ k) ∧ k < w'.heap.size }, [v'], rfl, hgr.os, hgr.tape, hgr.output, hgr.size, fun k hk hnk _ => hgr.block k hk (fun e3 => hnk ?_), rfl, ⟨rfl, [v'], [], rfl, ?_, ⟨hσ, hnew⟩, rfl⟩, fun j hj => ⟨hone, fun k hk => hk⟩, fun i hi j hj hne => ?_⟩
  · rw [ids]
    exact ⟨0, by simp, h0 k e3.symm⟩
  · simp only [VR]
    trivial
  · exact (hne ((List.mem_singleton.1 hi).trans (List.mem_singleton.1 hj).symm)).elim
end Go.Proofs.Ytcmjbplnjjdcdaa.Ref

namespace Go.Proofs.Ytcmjbplnjjdcdaa.Ref
open Go.RowKit Go.Proofs.YtcmjbplnjjdcdaaW.PrintWords Go.Proofs.YtcmjbplnjjdcdaaW.PrintLast

theorem ins_eq {α : Type} (x : α) : ∀ (l : List α) (i : Nat), i ≤ l.length → l.insertIdx i x = l.take i ++ x :: l.drop i
  | [], 0, _ => rfl
  | [], i + 1, h => by simp at h
  | y :: l, 0, _ => rfl
  | y :: l, i + 1, h => by
    rw [List.insertIdx_succ_cons, ins_eq x l i (by simpa using h)]
    rfl
theorem set_eq {α : Type} (x : α) : ∀ (l : List α) (i : Nat), i < l.length → l.set i x = l.take i ++ x :: l.drop (i + 1)
  | [], _, h => by simp at h
  | y :: l, 0, _ => rfl
  | y :: l, i + 1, h => by
    show y :: l.set i x = y :: (l.take i ++ x :: l.drop (i + 1))
    rw [set_eq x l i (by simpa using h)]
theorem wEs_mem1 {l : List TEntry} {e : TEntry} (h : e ∈ l) : wE e + 1 ≤ wEs l := by
  induction l with
  | nil => cases h
  | cons x l ih =>
    rw [wEs_cons]
    rcases List.mem_cons.1 h with h | h
    · subst h; omega
    · have := ih h; omega
theorem half_at {i j : Nat} (h : i + j ≤ 4611686018427387904) : IntKind.wrap .i64 ((IntKind.wrap .u64 (IntKind.wrap .i64 ((i : Int) + (j : Int)))) / (2 : Int) ^ 1) = (((i + j) / 2 : Nat) : Int) := by
  have e1 : IntKind.wrap .i64 ((i : Int) + (j : Int)) = ((i + j : Nat) : Int) := by rw [wrap_id (by omega) (by omega)]; omega
  have e2 : IntKind.wrap .u64 ((i + j : Nat) : Int) = ((i + j : Nat) : Int) := by
    rw [IntKind.wrap_u64]
    omega
  have e3 : ((i + j : Nat) : Int) / (2 : Int) ^ 1 = (((i + j) / 2 : Nat) : Int) := by
    rw [show ((2 : Int) ^ 1) = 2 from rfl]
    omega
  rw [e1, e2, e3, wrap_id (by omega) (by omega)]
def bsGo (l : List TEntry) (s : ByteArray) : Nat → Nat → Nat → Nat
  | 0, i, _ => i
  | d + 1, i, j => cond (decide (i < j)) (cond (decide (cmpStr (at' l ((i + j) / 2)).1 s < 0)) (bsGo l s d ((i + j) / 2 + 1) j) (bsGo l s d i ((i + j) / 2))) i
def bsAt (l : List TEntry) (s : ByteArray) : Nat := bsGo l s l.length 0 l.length
def bsHit (l : List TEntry) (s : ByteArray) : Bool := decide (bsAt l s < l.length) && cmpStr (at' l (bsAt l s)).1 s == 0
structure Split (l : List TEntry) (s : ByteArray) (r : Nat) : Prop where
  le : r ≤ l.length
  low : ∀ t, t < r → cmpStr (at' l t).1 s < 0
  high : ∀ t, r ≤ t → t < l.length → ¬ cmpStr (at' l t).1 s < 0
theorem cmp_neg {a b : ByteArray} : cmpStr a b < 0 ↔ Op.bytesLess a.toList b.toList = true := by
  rw [← cmp_lt]
  rcases cmp_three a b with h | h | h <;> rw [h] <;> decide
theorem bsGo_split {l : List TEntry} {s : ByteArray} (h : InOrder l) : ∀ (d i j : Nat), j - i ≤ d → i ≤ j → j ≤ l.length → (∀ t, t < i → cmpStr (at' l t).1 s < 0) → (∀ t, j ≤ t → t < l.length → ¬ cmpStr (at' l t).1 s < 0) → Split l s (bsGo l s d i j)
  | 0, i, j, hd, hij, hj, h1, h2 => by
    have : i = j := by omega
    subst this
    exact ⟨hj, h1, h2⟩
  | d + 1, i, j, hd, hij, hj, h1, h2 => by
    unfold bsGo
    by_cases c : i < j
    · rw [decide_eq_true c, cond_true]
      cases e : decide (cmpStr (at' l ((i + j) / 2)).1 s < 0) with
      | true =>
        rw [cond_true]
        have e := of_decide_eq_true e
        refine bsGo_split h d _ j (by omega) (by omega) hj (fun t ht => ?_) h2
        by_cases et : t = (i + j) / 2
        · rw [et]; exact e
        · exact cmp_neg.2 (less_trans (h.less t ((i + j) / 2) (by omega) (by omega)) (cmp_neg.1 e))
      | false =>
        rw [cond_false]
        have e := of_decide_eq_false e
        refine bsGo_split h d i _ (by omega) (by omega) (by omega) h1 (fun t ht htl hc => ?_)
        by_cases et : t = (i + j) / 2
        · rw [et] at hc; exact e hc
        · exact e (cmp_neg.2 (less_trans (h.less ((i + j) / 2) t (by omega) htl) (cmp_neg.1 hc)))
    · rw [decide_eq_false c, cond_false]
      have : i = j := by omega
      subst this
      exact ⟨hj, h1, h2⟩
theorem bsAt_split {l : List TEntry} (s : ByteArray) (h : InOrder l) : Split l s (bsAt l s) :=
  bsGo_split h l.length 0 l.length (by omega) (by omega) (Nat.le_refl _) (fun t ht => by omega) (fun t h1 h2 => by omega)
theorem putGo_low (e : TEntry) (ys : List TEntry) : ∀ (xs : List TEntry) (o : List TEntry), (∀ x ∈ xs, cmpStr x.1 e.1 < 0) → putGo e (xs ++ ys) (false, o) = putGo e ys (false, o ++ xs)
  | [], o, _ => by rw [List.append_nil]; rfl
  | x :: xs, o, h => by
    have hx := h x (List.mem_cons_self ..)
    have e1 : decide (cmpStr x.1 e.1 ≥ 0) = false := decide_eq_false (by omega)
    have e2 : (cmpStr x.1 e.1 != 0) = true := by rw [bne_iff_ne]; omega
    have e3 : putStep e x (false, o) = (false, o ++ [x]) := by
      unfold putStep putAt
      rw [e1, e2]
      rfl
    show putGo e (xs ++ ys) (putStep e x (false, o)) = _
    rw [e3, putGo_low e ys xs (o ++ [x]) (fun y hy => h y (List.mem_cons_of_mem _ hy)), List.append_assoc]
    rfl
theorem putGo_high (e : TEntry) : ∀ (ys : List TEntry) (o : List TEntry), (∀ y ∈ ys, cmpStr y.1 e.1 ≠ 0) → putGo e ys (true, o) = (true, o ++ ys)
  | [], o, _ => by rw [List.append_nil]; rfl
  | y :: ys, o, h => by
    have e2 : (cmpStr y.1 e.1 != 0) = true := by rw [bne_iff_ne]; exact h y (List.mem_cons_self ..)
    have e3 : putStep e y (true, o) = (true, o ++ [y]) := by
      unfold putStep putAt
      rw [e2]
      cases decide (cmpStr y.1 e.1 ≥ 0) <;> rfl
    show putGo e ys (putStep e y (true, o)) = _
    rw [e3, putGo_high e ys (o ++ [y]) (fun z hz => h z (List.mem_cons_of_mem _ hz)), List.append_assoc]
    rfl
def putAs (l : List TEntry) (e : TEntry) : List TEntry := cond (bsHit l e.1) (l.set (bsAt l e.1) e) (l.insertIdx (bsAt l e.1) e)
theorem at_mem_take {l : List TEntry} {r : Nat} {x : TEntry} (h : x ∈ l.take r) : ∃ t, t < r ∧ t < l.length ∧ at' l t = x := by
  obtain ⟨t, ht, e⟩ := List.getElem_of_mem h
  have h1 : t < r ∧ t < l.length := by rw [List.length_take] at ht; omega
  refine ⟨t, h1.1, h1.2, ?_⟩
  rw [← e, List.getElem_take]
  unfold at'
  rw [List.getD_eq_getElem?_getD, List.getElem?_eq_getElem h1.2]
  rfl
theorem at_mem_drop {l : List TEntry} {r : Nat} {x : TEntry} (h : x ∈ l.drop r) : ∃ t, r ≤ t ∧ t < l.length ∧ at' l t = x := by
  obtain ⟨t, ht, e⟩ := List.getElem_of_mem h
  have h1 : r + t < l.length := by rw [List.length_drop] at ht; omega
  refine ⟨r + t, by omega, h1, ?_⟩
  rw [← e, List.getElem_drop]
  unfold at'
  rw [List.getD_eq_getElem?_getD, List.getElem?_eq_getElem h1]
  rfl
theorem put_as {l : List TEntry} (e : TEntry) (h : InOrder l) : putOut e (putGo e l (false, [])) = putAs l e := by
  have sp := bsAt_split e.1 h
  unfold putAs
  generalize hr : bsAt l e.1 = r at *
  have h1 : putGo e l (false, []) = putGo e (l.drop r) (false, l.take r) := by
    have := putGo_low e (l.drop r) (l.take r) [] (fun x hx => by
      obtain ⟨t, t1, _, t3⟩ := at_mem_take hx
      rw [← t3]
      exact sp.low t t1)
    rw [List.take_append_drop, List.nil_append] at this
    exact this
  rw [h1, ins_eq e l r sp.le]
  by_cases hl : r < l.length
  · have hd : l.drop r = at' l r :: l.drop (r + 1) := drop_cons dE hl
    have hge := sp.high r (Nat.le_refl _) hl
    have hrest : ∀ y ∈ l.drop (r + 1), cmpStr y.1 e.1 ≠ 0 := by
      intro y hy hz
      obtain ⟨t, t1, t2, t3⟩ := at_mem_drop hy
      subst t3
      have hlt := h.less r t (by omega) t2
      have he := eqStr_iff.1 (cmp_zero hz)
      rw [he] at hlt
      exact hge (cmp_neg.2 hlt)
    have e1 : decide (cmpStr (at' l r).1 e.1 ≥ 0) = true := decide_eq_true (by omega)
    have hit : bsHit l e.1 = (cmpStr (at' l r).1 e.1 == 0) := by
      unfold bsHit
      rw [hr, decide_eq_true hl, Bool.true_and]
    have e3 : putStep e (at' l r) (false, l.take r) = (true, cond (cmpStr (at' l r).1 e.1 == 0) (l.take r ++ [e]) (l.take r ++ [e] ++ [at' l r])) := by
      unfold putStep putAt
      rw [e1]
      unfold bne
      cases cmpStr (at' l r).1 e.1 == 0 <;> rfl
    rw [hd]
    show putOut e (putGo e (l.drop (r + 1)) (putStep e (at' l r) (false, l.take r))) = _
    rw [e3, putGo_high e _ _ hrest, hit]
    show cond (cmpStr (at' l r).1 e.1 == 0) (l.take r ++ [e]) (l.take r ++ [e] ++ [at' l r]) ++ l.drop (r + 1) = _
    cases cmpStr (at' l r).1 e.1 == 0 with
    | true =>
      rw [cond_true, cond_true, set_eq e l r hl, List.append_assoc]
      rfl
    | false =>
      rw [cond_false, cond_false, List.append_assoc, List.append_assoc]
      rfl
  · have hd : l.drop r = [] := List.drop_eq_nil_of_le (by omega)
    have hit : bsHit l e.1 = false := by
      unfold bsHit
      rw [hr, decide_eq_false hl, Bool.false_and]
    rw [hd, hit]
    rfl
theorem putAs_w {l : List TEntry} {e : TEntry} (h : bsAt l e.1 ≤ l.length) : wEs (putAs l e) ≤ wEs l + wE e + 1 := by
  unfold putAs
  have h1 := wEs_app (l.take (bsAt l e.1)) (l.drop (bsAt l e.1))
  rw [List.take_append_drop] at h1
  cases hh : bsHit l e.1 with
  | true =>
    have hlt : bsAt l e.1 < l.length := by
      unfold bsHit at hh
      exact of_decide_eq_true ((Bool.and_eq_true _ _).mp hh).1
    rw [cond_true, set_eq e l _ hlt, wEs_app, wEs_cons]
    have h2 := wEs_app (l.take (bsAt l e.1 + 1)) (l.drop (bsAt l e.1 + 1))
    rw [List.take_append_drop] at h2
    have h3 : l.drop (bsAt l e.1) = at' l (bsAt l e.1) :: l.drop (bsAt l e.1 + 1) := drop_cons dE hlt
    rw [h3, wEs_cons] at h1
    omega
  | false =>
    rw [cond_false, ins_eq e l _ h, wEs_app, wEs_cons]
    omega
theorem putE_as (l : List TEntry) (e : TEntry) : putE l e = cond (!areEntries l) (l, false) (cond (!areEntries (putAs l e)) (l, false) (putAs l e, true)) := by
  unfold putE putFin
  cases ha : areEntries l with
  | false => rfl
  | true => rw [put_as e (inOrder ha)]
theorem bsGo_le {l : List TEntry} {s : ByteArray} : ∀ (d i j : Nat), i ≤ j → bsGo l s d i j ≤ j
  | 0, i, j, h => h
  | d + 1, i, j, h => by
    unfold bsGo
    by_cases c : i < j
    · rw [decide_eq_true c, cond_true]
      cases decide (cmpStr (at' l ((i + j) / 2)).1 s < 0) with
      | true => exact bsGo_le d _ j (by omega)
      | false => exact Nat.le_trans (bsGo_le d i _ (by omega)) (by omega)
    · rw [decide_eq_false c, cond_false]
      exact h
theorem bsAt_le (l : List TEntry) (s : ByteArray) : bsAt l s ≤ l.length := bsGo_le _ _ _ (Nat.zero_le _)
end Go.Proofs.Ytcmjbplnjjdcdaa.Ref
