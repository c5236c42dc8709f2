/- The proof system: an abstract machine over data, and that what it computes the code computes.
   Conditions: as each theorem states. -/
import Derived.Test.YtcmjbplnjjdcdaaK3
import Derived.Lib.SliceRun
import Derived.Lib.SlicesDelete
import Derived.Deep.RegionLaw
import Derived.Deep.LoopGhost
import Derived.Lib.Walk
import Derived.WalkKit
import Derived.Shelf.RegionOpenPlain
import Derived.Sort.WalkB12
import Derived.Shelf.Spec.SlicesInsert
import Derived.Lib.AppendZerosOnto
import Derived.Laws.NewBlocks
import Derived.Conc.MuLone
import Derived.KernelRfl
import Derived.Deep.RegionHeld
import Derived.Defers
import Derived.RegionCalls
import Derived.RegionTactic
import Derived.ChangeAlike
import Derived.Laws.MakeOwn
import Derived.Handy
set_option linter.unusedVariables false
set_option linter.unusedSimpArgs false
namespace Go.Proofs.Ytcmjbplnjjdcdaa.Ref
open Go.RowKit Go.Proofs.YtcmjbplnjjdcdaaW.PrintWords Go.Proofs.YtcmjbplnjjdcdaaW.PrintLast

section
variable {α : Type} {d : Kd α} {e blk cap i : Nat} {w w' : World} {ok : Nat → Prop} {xs : List α} {cur cur' : Array Value}
end
end Go.Proofs.Ytcmjbplnjjdcdaa.Ref

namespace Go.Proofs.Ytcmjbplnjjdcdaa.Ref
open Go.RowKit Go.Proofs.YtcmjbplnjjdcdaaW.PrintWords Go.Proofs.YtcmjbplnjjdcdaaW.PrintLast

end Go.Proofs.Ytcmjbplnjjdcdaa.Ref

namespace Go.Proofs.Ytcmjbplnjjdcdaa.Ref
open Go.RowKit Go.Proofs.YtcmjbplnjjdcdaaW.PrintWords Go.Proofs.YtcmjbplnjjdcdaaW.PrintLast

end Go.Proofs.Ytcmjbplnjjdcdaa.Ref

namespace Go.Proofs.Ytcmjbplnjjdcdaa.Ref
open Go.RowKit Go.Proofs.YtcmjbplnjjdcdaaW.PrintWords Go.Proofs.YtcmjbplnjjdcdaaW.PrintLast

structure Split (l : List TEntry) (s : ByteArray) (r : Nat) : Prop where
  le : r ≤ l.length
  low : ∀ t, t < r → cmpStr (at' l t).1 s < 0
  high : ∀ t, r ≤ t → t < l.length → ¬ cmpStr (at' l t).1 s < 0
end Go.Proofs.Ytcmjbplnjjdcdaa.Ref

namespace Go.Proofs.Ytcmjbplnjjdcdaa.Ref
open Go.RowKit Go.Proofs.YtcmjbplnjjdcdaaW.PrintWords Go.Proofs.YtcmjbplnjjdcdaaW.PrintLast

def plainB (b : Int) : Option Int := cond (b == 48) (some 111) (cond (b == 49) (some 108) (cond (b == 53) (some 115) (cond (b == 45) none (some b))))
def plainOf (s : ByteArray) : ByteArray := strOfNums ((bytesOf s).filterMap plainB)
def looksLike (a b : ByteArray) : Bool := isLabel a && (isLabel b && eqStr (plainOf a) (plainOf b))
def alikeOf (s : ByteArray) (e : TEntry) : Option ByteArray := cond (!(eqStr e.1 s)) (cond (looksLike e.1 s) (some e.1) none) none
def alikeIn (l : List TEntry) (s : ByteArray) : List ByteArray := l.filterMap (alikeOf s)
theorem label8 {s : ByteArray} (h : isLabel s = true) : s.size ≤ 8 := by
  have h := ((Bool.and_eq_true _ _).mp h).1
  have h := of_decide_eq_true ((Bool.and_eq_true _ _).mp h).2
  omega
theorem bytes_at (s : ByteArray) (j : Nat) : (bytesOf s).getD j 0 = bt s (j : Int) := by
  unfold bytesOf bt
  rw [List.getD_eq_getElem?_getD, List.getElem?_map, Array.getElem?_toList, Int.toNat_natCast]
  by_cases h : j < s.size
  · have h2 : j < s.data.size := h
    rw [dif_pos h, Array.getElem?_eq_getElem h2]
    rfl
  · have h2 : ¬ j < s.data.size := h
    rw [dif_neg h, Array.getElem?_eq_none (by omega)]
    rfl
theorem wE_lab (e : TEntry) : e.1.size ≤ wE e := by unfold wE; omega
end Go.Proofs.Ytcmjbplnjjdcdaa.Ref

namespace Go.Proofs.Ytcmjbplnjjdcdaa.Ref
open Go.RowKit Go.Proofs.YtcmjbplnjjdcdaaW.PrintWords Go.Proofs.YtcmjbplnjjdcdaaW.PrintLast
namespace Rpl
open Go.Lib Go.Proofs
def keys : List Nat := [48, 49, 53, 45]
def news : List (List UInt8) := [[111], [108], [115], []]
/-- k rounds to come. A: the strings' block; B: the block of what is to be replaced; T: the table's. -/
structure BInv (w : World) (A B T k : Nat) (wr : World) : Prop where
  k4 : k ≤ 4
  below : Below w.heap.size w wr
  big : T < wr.heap.size
  cA0 : wr.cell? ⟨A, 0, none⟩ = some (.string ⟨#[48]⟩)
  cA1 : wr.cell? ⟨A, 1, none⟩ = some (.string ⟨#[111]⟩)
  cA2 : wr.cell? ⟨A, 2, none⟩ = some (.string ⟨#[49]⟩)
  cA3 : wr.cell? ⟨A, 3, none⟩ = some (.string ⟨#[108]⟩)
  cA4 : wr.cell? ⟨A, 4, none⟩ = some (.string ⟨#[53]⟩)
  cA5 : wr.cell? ⟨A, 5, none⟩ = some (.string ⟨#[115]⟩)
  cA6 : wr.cell? ⟨A, 6, none⟩ = some (.string ⟨#[45]⟩)
  cA7 : wr.cell? ⟨A, 7, none⟩ = some (.string ⟨#[]⟩)
  t256 : wr.cell? ⟨T, 256, none⟩ = some (.slice (some ⟨B, 0, none⟩) (4 - k) 4)
  room : ∀ j, j < 4 → (wr.cell? ⟨B, j, none⟩).isSome = true
  froB : ∀ j, wr.frozen? ⟨B, j, none⟩ = false
  froT : ∀ j, wr.frozen? ⟨T, j, none⟩ = false
  todo : ∀ j, j < 256 → j ∉ keys.drop k → wr.cell? ⟨T, j, none⟩ = some (.slice none 0 0)
  done : ∀ i, k ≤ i → i < 4 → ∃ b c, wr.cell? ⟨T, keys.getD i 0, none⟩ = some (.slice (some ⟨b, 0, none⟩) (news.getD i []).length c) ∧ b < wr.heap.size ∧ T < b ∧ ∀ j u, (news.getD i [])[j]? = some u → wr.cell? ⟨b, j, none⟩ = some (.int .u8 u.toNat)
theorem size_put (b : Nat) : ∀ (vs : List Value) (o : Nat) (w : World), (w.setCells b o vs).heap.size = w.heap.size
  | [], _, _ => rfl
  | v :: vs, o, w => by
    show ((w.setCell ⟨b, o, none⟩ v).setCells b (o + 1) vs).heap.size = _
    rw [size_put b vs, World.size_setCell]
theorem below_put {N b : Nat} {w0 : World} : ∀ {w : World}, Below N w0 w → N ≤ b → ∀ (o : Nat) (vs : List Value), Below N w0 (w.setCells b o vs)
  | w, h, _, _, [] => h
  | w, h, hb, o, v :: vs => below_put (w := w.setCell ⟨b, o, none⟩ v) (Below.setCell h hb v) hb (o + 1) vs
theorem sc_ne {w : World} {b i j : Nat} {v : Value} (h : j ≠ i) : (w.setCell ⟨b, i, none⟩ v).cell? ⟨b, j, none⟩ = w.cell? ⟨b, j, none⟩ := by
  apply World.cell?_setCell_other
  intro e
  injection e with _ e
  exact h e.symm
theorem sc_eq {w : World} {a : Addr} {v u : Value} (h : w.cell? a = some u) : (w.setCell a v).cell? a = some v := by
  apply World.cell?_setCell_same
  exact h
theorem keys_lt : ∀ i, i < 4 → keys.getD i 0 < 256 := by decide
theorem keys_ne : ∀ i, i < 4 → ∀ k, k < 4 → i ≠ k → keys.getD i 0 ≠ keys.getD k 0 := by decide
theorem keys_notin : ∀ k, k < 4 → keys.getD k 0 ∉ keys.drop (k + 1) := by decide
theorem keys_drop : ∀ k, k < 4 → keys.drop k = keys.getD k 0 :: keys.drop (k + 1) := by decide
theorem BInv.next {w wr Wc Wd We : World} {A B T k : Nat} (h : BInv w A B T (k + 1) wr) (hA : A < w.heap.size) (hB : B = w.heap.size) (hT : T = w.heap.size + 1) {o1 o2 : Obj} {s : Value} {row : Array Value} {ty : TypeId} {fr : Nat × Nat} {cap : Nat}
    (hWc : Wc = ((wr.alloc o1).alloc o2).setCells B (0 + (4 - (k + 1))) [s])
    (hWd : Wd = Wc.setCell ⟨T, 256, none⟩ (.slice (some ⟨B, 0, none⟩) (4 - k) 4))
    (hWe : We = Wd.drew.alloc (.cells row ty fr))
    (hrow : ∀ (j : Nat) (u : UInt8), (news.getD k [])[j]? = some u → row[j]? = some (Value.int .u8 u.toNat)) :
    BInv w A B T k (We.setCell ⟨T, keys.getD k 0, none⟩ (.slice (some ⟨Wd.heap.size, 0, none⟩) (news.getD k []).length cap)) := by
  have hk4 := h.k4
  have hbig := h.big
  have hkey : keys.getD k 0 < 256 := keys_lt k (by omega)
  have hsz : w.heap.size + 2 ≤ wr.heap.size := by omega
  have s1 : ((wr.alloc o1).alloc o2).heap.size = wr.heap.size + 2 := by rw [World.size_alloc, World.size_alloc]
  have s2 : Wc.heap.size = wr.heap.size + 2 := by rw [hWc, ← s1]; exact size_put ..
  have s3 : Wd.heap.size = wr.heap.size + 2 := by rw [hWd, World.size_setCell, s2]
  have s4 : We.heap.size = wr.heap.size + 3 := by rw [hWe, World.size_alloc, World.size_drew, s3]
  generalize hWf : We.setCell ⟨T, keys.getD k 0, none⟩ (.slice (some ⟨Wd.heap.size, 0, none⟩) (news.getD k []).length cap) = Wf
  have s5 : Wf.heap.size = wr.heap.size + 3 := by rw [← hWf, World.size_setCell, s4]
  have a2 : ∀ b j, b < wr.heap.size → ((wr.alloc o1).alloc o2).cell? ⟨b, j, none⟩ = wr.cell? ⟨b, j, none⟩ := fun b j hb => by
    rw [World.cell?_alloc_past _ _ _ (by rw [World.size_alloc]; omega), World.cell?_alloc_past _ _ _ hb]
  have f2 : ∀ b j, b < wr.heap.size → ((wr.alloc o1).alloc o2).frozen? ⟨b, j, none⟩ = wr.frozen? ⟨b, j, none⟩ := fun b j hb => by
    rw [World.frozen?_alloc_past _ _ _ (by rw [World.size_alloc]; omega), World.frozen?_alloc_past _ _ _ hb]
  have fall : ∀ b j, b < wr.heap.size → Wf.frozen? ⟨b, j, none⟩ = wr.frozen? ⟨b, j, none⟩ := fun b j hb => by
    rw [← hWf, World.frozen?_setCell, hWe, World.frozen?_alloc_past _ _ _ (by rw [World.size_drew, s3]; omega), World.frozen?_drew, hWd, World.frozen?_setCell, hWc, World.frozen?_setCells, f2 b j hb]
  have far : ∀ b j, b < wr.heap.size → b ≠ B → b ≠ T → Wf.cell? ⟨b, j, none⟩ = wr.cell? ⟨b, j, none⟩ := fun b j hb h1 h2 => by
    rw [← hWf, World.cell?_setCell_far _ _ _ _ (fun e => h2 e.symm), hWe, World.cell?_alloc_past _ _ _ (by rw [World.size_drew, s3]; omega), World.cell?_drew, hWd, World.cell?_setCell_far _ _ _ _ (fun e => h2 e.symm), hWc, World.cell?_setCells_out _ _ _ _ _ (fun e => (h1 e).elim), a2 b j hb]
  have hBT : B ≠ T := by omega
  have onB : ∀ j, Wf.cell? ⟨B, j, none⟩ = Wc.cell? ⟨B, j, none⟩ := fun j => by
    rw [← hWf, World.cell?_setCell_far _ _ _ _ (fun e => hBT e.symm), hWe, World.cell?_alloc_past _ _ _ (by rw [World.size_drew, s3]; omega), World.cell?_drew, hWd, World.cell?_setCell_far _ _ _ _ (fun e => hBT e.symm)]
  have onT0 : ∀ j, Wc.cell? ⟨T, j, none⟩ = wr.cell? ⟨T, j, none⟩ := fun j => by
    rw [hWc, World.cell?_setCells_out _ _ _ _ _ (fun e => (hBT e.symm).elim), a2 T j hbig]
  have onT : ∀ j, j ≠ 256 → j ≠ keys.getD k 0 → Wf.cell? ⟨T, j, none⟩ = wr.cell? ⟨T, j, none⟩ := fun j h1 h2 => by
    rw [← hWf, sc_ne h2, hWe, World.cell?_alloc_past _ _ _ (by rw [World.size_drew, s3]; omega), World.cell?_drew, hWd, sc_ne h1, onT0 j]
  have t256 : Wd.cell? ⟨T, 256, none⟩ = some (.slice (some ⟨B, 0, none⟩) (4 - k) 4) := by
    rw [hWd]
    exact sc_eq (u := .slice (some ⟨B, 0, none⟩) (4 - (k + 1)) 4) (by rw [onT0]; exact h.t256)
  have newb : ∀ j, Wf.cell? ⟨Wd.heap.size, j, none⟩ = row[j]? := fun j => by
    rw [← hWf, World.cell?_setCell_far _ _ _ _ (fun e => by have e : T = Wd.heap.size := e; omega), hWe]
    obtain ⟨lo, hi⟩ := fr
    exact World.cell?_alloc_mark Wd.drew row ty (lo, hi) j
  refine ⟨by omega, ?_, by omega, ?_, ?_, ?_, ?_, ?_, ?_, ?_, ?_, ?_, ?_, ?_, ?_, ?_, ?_⟩
  · rw [← hWf]
    refine Below.setCell ?_ (by show _ ≤ T; omega) _
    rw [hWe]
    refine Below.alloc (Below.drew ?_) (by rw [World.size_drew]; omega) _
    rw [hWd]
    refine Below.setCell ?_ (by show _ ≤ T; omega) _
    rw [hWc]
    refine below_put ?_ (by omega) _ _
    exact Below.alloc (Below.alloc h.below (by omega) _) (by rw [World.size_alloc]; omega) _
  · rw [far A _ (by omega) (by omega) (by omega)]; exact h.cA0
  · rw [far A _ (by omega) (by omega) (by omega)]; exact h.cA1
  · rw [far A _ (by omega) (by omega) (by omega)]; exact h.cA2
  · rw [far A _ (by omega) (by omega) (by omega)]; exact h.cA3
  · rw [far A _ (by omega) (by omega) (by omega)]; exact h.cA4
  · rw [far A _ (by omega) (by omega) (by omega)]; exact h.cA5
  · rw [far A _ (by omega) (by omega) (by omega)]; exact h.cA6
  · rw [far A _ (by omega) (by omega) (by omega)]; exact h.cA7
  · rw [← hWf, sc_ne (by omega), hWe, World.cell?_alloc_past _ _ _ (by rw [World.size_drew, s3]; omega), World.cell?_drew, t256]
  · intro j hj
    rw [onB, hWc]
    by_cases c : j = 0 + (4 - (k + 1))
    · have := World.cell?_setCells_in B [s] (0 + (4 - (k + 1))) ((wr.alloc o1).alloc o2) (fun t ht => by
        have : t = 0 := by simp at ht; omega
        rw [this, Nat.add_zero, a2 B _ (by omega)]
        exact h.room _ (by omega)) 0 (by simp)
      have e : (0 + (4 - (k + 1))) + 0 = j := by omega
      rw [e] at this
      rw [this]; rfl
    · rw [World.cell?_setCells_out _ _ _ _ _ (fun _ _ => by simp only [List.length_cons, List.length_nil]; omega), a2 B j (by omega)]
      exact h.room j hj
  · intro j; rw [fall B j (by omega)]; exact h.froB j
  · intro j; rw [fall T j (by omega)]; exact h.froT j
  · intro j hj hn
    rw [keys_drop k (by omega)] at hn
    rw [onT j (by omega) (fun e => hn (by rw [e]; exact List.mem_cons_self ..))]
    exact h.todo j hj (fun hm => hn (List.mem_cons_of_mem _ hm))
  · intro i hi hi4
    by_cases c : i = k
    · subst c
      refine ⟨Wd.heap.size, cap, ?_, by omega, by omega, fun j u hj => by rw [newb, hrow j u hj]⟩
      rw [← hWf]
      refine sc_eq (u := .slice none 0 0) ?_
      rw [hWe, World.cell?_alloc_past _ _ _ (by rw [World.size_drew, s3]; omega), World.cell?_drew, hWd, sc_ne (by omega), onT0]
      exact h.todo _ hkey (keys_notin i (by omega))
    · obtain ⟨b, c', h1, h2, h3, h4⟩ := h.done i (by omega) hi4
      refine ⟨b, c', ?_, by omega, h3, fun j u hj => ?_⟩
      · rw [onT _ (by have := keys_lt i hi4; omega) (keys_ne i hi4 k (by omega) c)]; exact h1
      · rw [far b j h2 (by omega) (by omega)]; exact h4 j u hj
theorem conv1 {P : Program} (w : World) (t59 t9 t5 : TypeId) (o : UInt8) (hs : P.underlying t59 = some (.slice t5)) (he : P.underlying t5 = some (.int .u8)) (hd : P.underlying t9 = some .string) :
    (convert t59 t9 (.slice (some ⟨w.heap.size, 0, none⟩) 1 1)).run P (w.alloc (.cells #[.int .u8 (o.toNat : Int)] t5)) = .ok (.string ⟨#[o]⟩) (w.alloc (.cells #[.int .u8 (o.toNat : Int)] t5)) :=
  run_convert_bytes_back _ t59 t9 t5 ⟨w.heap.size, 0, none⟩ 1 [o] hs he hd (fun j hj => by
    have hj0 : j = 0 := by simp at hj; omega
    subst hj0
    rw [Addr.add_lit]
    have := World.cell?_alloc_at (w := w) #[.int .u8 (o.toNat : Int)] t5 w.heap.size 0 rfl
    rw [Nat.add_zero, this]; rfl)
theorem app1 {P : Program} {w wr : World} {A B T k : Nat} (h : BInv w A B T (k + 1) wr) (hB : B = w.heap.size) (hT : T = w.heap.size + 1) (t23 t9 : TypeId) (i9 : TypeInfo) (ht : P.underlying t23 = some (.slice t9)) (hi9 : P.info? t9 = some i9) (hzs : i9.size = 1) (o1 : Obj) (s : ByteArray) (ty : TypeId) :
    (Builtin.append_ #[t23, t23] ty #[.slice (some ⟨B, 0, none⟩) (4 - (k + 1)) 4, .slice (some ⟨wr.heap.size + 1, 0, none⟩) 1 1]).run P ((wr.alloc o1).alloc (.cells #[.string s] t9)) = .ok (.slice (some ⟨B, 0, none⟩) (4 - (k + 1) + 1) 4) (((wr.alloc o1).alloc (.cells #[.string s] t9)).setCells B (0 + (4 - (k + 1))) [.string s]) := by
  have hk := h.k4
  have hbig := h.big
  obtain ⟨Wb, hWb⟩ : ∃ Wb, Wb = (wr.alloc o1).alloc (.cells #[.string s] t9) := ⟨_, rfl⟩
  rw [← hWb]
  have hsrc : Src P i9.size t23 (.slice (some ⟨wr.heap.size + 1, 0, none⟩) 1 1) 1 [.string s] Wb := by
    rw [hzs]
    refine Src.ofSlice Wb ht ⟨wr.heap.size + 1, 0, none⟩ 1 1 [.string s] rfl (fun j u hj => ?_) (fun v hv => ?_)
    · have hj0 : j = 0 := by have := (List.getElem?_eq_some_iff.1 hj).1; simp at this; omega
      subst hj0
      have := World.cell?_alloc_at (w := wr.alloc o1) #[.string s] t9 (wr.heap.size + 1) 0 (by rw [World.size_alloc])
      rw [Addr.add_lit, hWb, Nat.add_zero, this]
      exact hj
    · simp only [List.mem_singleton] at hv
      rw [hv]; rfl
  have := run_append_room_src (P := P) (w := Wb) t23 t23 ty t9 i9 ht hi9 B 0 (4 - (k + 1)) 4 _ 1 _ hsrc (by omega) (by
      intro j hj
      have hj0 : j = 0 := by simp at hj; omega
      subst hj0
      rw [hzs, hWb, World.cell?_alloc_past _ _ _ (by rw [World.size_alloc]; omega), World.cell?_alloc_past _ _ _ (by omega)]
      exact h.room _ (by omega)) (by
      intro j hj
      rw [hWb, World.frozen?_alloc_past _ _ _ (by rw [World.size_alloc]; omega), World.frozen?_alloc_past _ _ _ (by omega)]
      exact h.froB _)
  rw [hzs, Nat.mul_one] at this
  exact this
theorem row_bytes (l : List UInt8) (G : Nat) : ∀ (j : Nat) (u : UInt8), l[j]? = some u → (bytesRow ⟨l.toArray⟩ G)[j]? = some (Value.int .u8 u.toNat) := by
  intro j u h
  have hj := (List.getElem?_eq_some_iff.1 h).1
  unfold bytesRow
  rw [Array.getElem?_append_left (by simp; exact hj)]
  simp [h]

theorem Aside.intro {p : Prop} (h : p) : Aside p := h
/-- A new replacer: its own block R, its strings in A. -/
structure Fresh (R A G : Nat) (w : World) : Prop where
  hA : A < w.heap.size
  hR : R < w.heap.size
  hRA : R ≠ A
  hG : 8 ≤ G
  r0 : w.cell? ⟨R, 0, none⟩ = some (.int .u32 0)
  r1 : w.cell? ⟨R, 1, none⟩ = some (.int .i32 0)
  r3 : w.cell? ⟨R, 3, none⟩ = some .nilIface
  r4 : w.cell? ⟨R, 4, none⟩ = some (.slice (some ⟨A, 0, none⟩) 8 G)
  fz : ∀ j, w.frozen? ⟨R, j, none⟩ = false
  c0 : w.cell? ⟨A, 0, none⟩ = some (.string ⟨#[48]⟩)
  c1 : w.cell? ⟨A, 1, none⟩ = some (.string ⟨#[111]⟩)
  c2 : w.cell? ⟨A, 2, none⟩ = some (.string ⟨#[49]⟩)
  c3 : w.cell? ⟨A, 3, none⟩ = some (.string ⟨#[108]⟩)
  c4 : w.cell? ⟨A, 4, none⟩ = some (.string ⟨#[53]⟩)
  c5 : w.cell? ⟨A, 5, none⟩ = some (.string ⟨#[115]⟩)
  c6 : w.cell? ⟨A, 6, none⟩ = some (.string ⟨#[45]⟩)
  c7 : w.cell? ⟨A, 7, none⟩ = some (.string ⟨#[]⟩)
abbrev locked (R : Nat) (w : World) : World := w.setCell ⟨R, 1, none⟩ (.int .i32 1)
abbrev built (t103 R T : Nat) (wx : World) : World := (wx.setCell ⟨R, 3, none⟩ (.iface t103 (.pointer (some ⟨T, 0, none⟩)))).setCell ⟨R, 4, none⟩ (.slice none 0 0)
/-- What stands when the table is made. -/
def After (t103 R A : Nat) (w w' : World) : Prop := ∃ wx, BInv (locked R w) A w.heap.size (w.heap.size + 1) 0 wx ∧ w' = ((built t103 R (w.heap.size + 1) wx).drew.setCell ⟨R, 0, none⟩ (.int .u32 1)).setCell ⟨R, 1, none⟩ (.int .i32 0)
def rep (b : UInt8) : Option (List UInt8) := if b = 48 then some [111] else if b = 49 then some [108] else if b = 53 then some [115] else if b = 45 then some [] else none
def outOf (b : UInt8) : List UInt8 := (rep b).getD [b]
/-- The table at T. -/
structure Table (T : Nat) (W : World) : Prop where
  hT : T < W.heap.size
  t256 : ∃ a, W.cell? ⟨T, 256, none⟩ = some (.slice (some a) 4 4)
  no : ∀ b, rep b = none → W.cell? ⟨T, b.toNat, none⟩ = some (.slice none 0 0)
  yes : ∀ b l, rep b = some l → ∃ k c, W.cell? ⟨T, b.toNat, none⟩ = some (.slice (some ⟨k, 0, none⟩) l.length c) ∧ k < W.heap.size ∧ ∀ j u, l[j]? = some u → W.cell? ⟨k, j, none⟩ = some (.int .u8 u.toNat)
theorem neq_nil {P : Program} (w : World) (t e : TypeId) (a : Option Addr) (n c : Nat) (h : P.underlying t = some (.slice e)) :
    (binOp .neq t (.slice a n c) (.slice none 0 0)).run P w = .ok (.bool (!a.isNone)) w := by
  simp only [binOp]
  simp [Op.equal, Op.maxDepth, Lib.run_equalIn_slice_nil w 9999 t e a n c 0 0 h]
/-- What is written of the answer, in the new block D. -/
structure Buf (w0 : World) (D N : Nat) (l : List UInt8) (w2 : World) : Prop where
  below : Below w0.heap.size w0 w2
  big : D < w2.heap.size
  room : ∀ j, j < N → (w2.cell? ⟨D, j, none⟩).isSome = true
  fz : ∀ j, w2.frozen? ⟨D, j, none⟩ = false
  at_ : ∀ j u, l[j]? = some u → w2.cell? ⟨D, j, none⟩ = some (.int .u8 u.toNat)
theorem Buf.put {w0 w : World} {D N j : Nat} {l : List UInt8} {u : UInt8} (h : Buf w0 D N l w) (hj : j = l.length) (hN : j < N) (hD : D = w0.heap.size) : Buf w0 D N (l ++ [u]) (w.setCell ⟨D, j, none⟩ (.int .u8 u.toNat)) := by
  obtain ⟨v0, hv0⟩ := Option.isSome_iff_exists.1 (h.room j hN)
  refine ⟨Below.setCell h.below (by show w0.heap.size ≤ D; omega) _, by rw [World.size_setCell]; exact h.big, fun t ht => ?_, fun t => by rw [World.frozen?_setCell]; exact h.fz t, fun t x hx => ?_⟩
  · by_cases c : t = j
    · subst c; rw [sc_eq hv0]; rfl
    · rw [sc_ne c]; exact h.room t ht
  · have hlt := (List.getElem?_eq_some_iff.1 hx).1
    rw [List.length_append, List.length_singleton] at hlt
    by_cases c : t = j
    · subst c
      rw [sc_eq hv0]
      rw [hj, List.getElem?_append_right (Nat.le_refl _), Nat.sub_self] at hx
      injection hx with hx
      rw [hx]
    · rw [sc_ne c]
      rw [List.getElem?_append_left (by omega)] at hx
      exact h.at_ t x hx
theorem Buf.drew {w0 w : World} {D N : Nat} {l : List UInt8} (h : Buf w0 D N l w) : Buf w0 D N l w.drew := ⟨Below.drew h.below, h.big, h.room, h.fz, h.at_⟩
abbrev bs (s : ByteArray) : List UInt8 := s.data.toList
def outs (s : ByteArray) (i : Nat) : List UInt8 := ((bs s).take i).flatMap outOf
def sizeAt (s : ByteArray) (i : Nat) : Int := ((s.size - i : Nat) : Int) + (((bs s).take i).flatMap outOf).length
def anyAt (s : ByteArray) (i : Nat) : Bool := ((bs s).take i).any fun b => (rep b).isSome
theorem take_one {s : ByteArray} {i : Nat} (h : i < s.size) : (bs s).take (i + 1) = (bs s).take i ++ [s[i]] := by
  rw [List.take_add_one, show (bs s)[i]? = some s[i] from by
    show s.data.toList[i]? = _
    rw [Array.getElem?_toList, Array.getElem?_eq_getElem h]; rfl]
  rfl
theorem outs_step {s : ByteArray} {i : Nat} (h : i < s.size) : outs s (i + 1) = outs s i ++ outOf s[i] := by
  unfold outs
  rw [take_one h, List.flatMap_append]
  simp
theorem outs_all (s : ByteArray) : outs s s.size = (bs s).flatMap outOf := by
  unfold outs
  rw [List.take_of_length_le (by show s.data.toList.length ≤ _; rw [Array.length_toList]; exact Nat.le_refl _)]
theorem outs_le {s : ByteArray} {i : Nat} (h : i ≤ s.size) : (outs s i).length ≤ (outs s s.size).length := by
  rw [outs_all]
  conv => rhs; rw [← List.take_append_drop i (bs s), List.flatMap_append, List.length_append]
  unfold outs
  omega
theorem sizeAt_none {s : ByteArray} {i : Nat} (h : i < s.size) (hn : rep s[i] = none) : sizeAt s (i + 1) = sizeAt s i := by
  unfold sizeAt
  rw [take_one h, List.flatMap_append, List.length_append]
  simp only [List.flatMap_cons, List.flatMap_nil, outOf, hn, Option.getD_none, List.append_nil, List.length_cons, List.length_nil]
  omega
theorem sizeAt_some {s : ByteArray} {i : Nat} (h : i < s.size) {l : List UInt8} (hn : rep s[i] = some l) : sizeAt s (i + 1) = sizeAt s i + ((l.length : Int) - 1) := by
  unfold sizeAt
  rw [take_one h, List.flatMap_append, List.length_append]
  simp only [List.flatMap_cons, List.flatMap_nil, outOf, hn, Option.getD_some, List.append_nil]
  omega
theorem anyAt_step {s : ByteArray} {i : Nat} (h : i < s.size) : anyAt s (i + 1) = (anyAt s i || (rep s[i]).isSome) := by
  unfold anyAt
  rw [take_one h, List.any_append]
  simp
theorem rep_len {b : UInt8} {l : List UInt8} (h : rep b = some l) : l.length ≤ 1 := by
  unfold rep at h
  split at h
  · injection h with h; subst h; simp
  · split at h
    · injection h with h; subst h; simp
    · split at h
      · injection h with h; subst h; simp
      · split at h
        · injection h with h; subst h; simp
        · cases h
theorem flat_same (l : List UInt8) (h : ∀ b ∈ l, rep b = none) : l.flatMap outOf = l := by
  induction l with
  | nil => rfl
  | cons b l ih =>
    have : outOf b = [b] := by unfold outOf; rw [h b (List.mem_cons_self ..)]; rfl
    rw [List.flatMap_cons, this, ih (fun x hx => h x (List.mem_cons_of_mem _ hx))]
    rfl
theorem flat_len (l : List UInt8) : (l.flatMap outOf).length ≤ l.length := by
  induction l with
  | nil => simp
  | cons b l ih =>
    rw [List.flatMap_cons, List.length_append, List.length_cons]
    have : (outOf b).length ≤ 1 := by
      unfold outOf
      cases h : rep b with
      | none => simp
      | some x => simpa using rep_len h
    omega
theorem sizeAt_le {s : ByteArray} {i : Nat} (h : i ≤ s.size) : 0 ≤ sizeAt s i ∧ sizeAt s i ≤ s.size := by
  unfold sizeAt
  have := flat_len ((bs s).take i)
  have h2 : ((bs s).take i).length ≤ i := by rw [List.length_take]; omega
  omega
theorem rep_eq (b : UInt8) : (rep b = none ∧ b.toNat ∉ keys) ∨ ∃ i, i < 4 ∧ b.toNat = keys.getD i 0 ∧ rep b = some (news.getD i []) := by
  unfold rep
  by_cases h0 : b = 48
  · subst h0; exact .inr ⟨0, by decide, rfl, rfl⟩
  rw [if_neg h0]
  by_cases h1 : b = 49
  · subst h1; exact .inr ⟨1, by decide, rfl, rfl⟩
  rw [if_neg h1]
  by_cases h2 : b = 53
  · subst h2; exact .inr ⟨2, by decide, rfl, rfl⟩
  rw [if_neg h2]
  by_cases h3 : b = 45
  · subst h3; exact .inr ⟨3, by decide, rfl, rfl⟩
  rw [if_neg h3]
  refine .inl ⟨rfl, fun h => ?_⟩
  simp only [keys, List.mem_cons, List.not_mem_nil, or_false] at h
  rcases h with h | h | h | h
  · exact h0 (UInt8.toNat_inj.1 (by rw [h]; rfl))
  · exact h1 (UInt8.toNat_inj.1 (by rw [h]; rfl))
  · exact h2 (UInt8.toNat_inj.1 (by rw [h]; rfl))
  · exact h3 (UInt8.toNat_inj.1 (by rw [h]; rfl))
theorem After.size {t103 R A : Nat} {w w' : World} (h : After t103 R A w w') : w.heap.size + 1 < w'.heap.size := by
  obtain ⟨wx, hx, rfl⟩ := h
  rw [World.size_setCell, World.size_setCell, World.size_drew, World.size_setCell, World.size_setCell]
  exact hx.big
theorem After.cells {t103 R A : Nat} {w w' : World} (hR : R < w.heap.size) (h : After t103 R A w w') : ∃ wx, BInv (locked R w) A w.heap.size (w.heap.size + 1) 0 wx ∧ wx.heap.size = w'.heap.size ∧ ∀ b j, b ≠ R → w'.cell? ⟨b, j, none⟩ = wx.cell? ⟨b, j, none⟩ := by
  obtain ⟨wx, hx, rfl⟩ := h
  refine ⟨wx, hx, ?_, fun b j hb => ?_⟩
  · rw [World.size_setCell, World.size_setCell, World.size_drew, World.size_setCell, World.size_setCell]
  · rw [World.cell?_setCell_far _ _ _ _ (fun e => hb e.symm), World.cell?_setCell_far _ _ _ _ (fun e => hb e.symm), World.cell?_drew, World.cell?_setCell_far _ _ _ _ (fun e => hb e.symm), World.cell?_setCell_far _ _ _ _ (fun e => hb e.symm)]
theorem After.table {t103 R A : Nat} {w w' : World} (hR : R < w.heap.size) (h : After t103 R A w w') : Table (w.heap.size + 1) w' := by
  obtain ⟨wx, hx, hs, hc⟩ := h.cells hR
  refine ⟨h.size, ⟨⟨w.heap.size, 0, none⟩, ?_⟩, fun b hb => ?_, fun b l hb => ?_⟩
  · rw [hc _ _ (by omega)]; exact hx.t256
  · rw [hc _ _ (by omega)]
    rcases rep_eq b with ⟨_, h2⟩ | ⟨i, _, _, h3⟩
    · exact hx.todo _ b.toNat_lt h2
    · rw [hb] at h3; cases h3
  · rcases rep_eq b with ⟨h1, _⟩ | ⟨i, hi, hk, h3⟩
    · rw [hb] at h1; cases h1
    · rw [hb] at h3
      injection h3 with h3
      subst h3
      obtain ⟨k, c, q1, q2, q3, q4⟩ := hx.done i (Nat.zero_le _) hi
      refine ⟨k, c, ?_, by omega, fun j u hj => ?_⟩
      · rw [hc _ _ (by omega), hk]; exact q1
      · rw [hc _ _ (by omega)]; exact q4 j u hj
theorem After.below {n t103 R A : Nat} {w0 w w' : World} (hb : Below n w0 w) (hn : n ≤ R) (hR : R < w.heap.size) (h : After t103 R A w w') : Below n w0 w' := by
  obtain ⟨wx, hx, rfl⟩ := h
  have h1 : Below n w0 (locked R w) := Below.setCell hb hn _
  have h2 : Below n w0 wx := h1.trans (hx.below.mono (by rw [World.size_setCell]; omega))
  exact Below.setCell (Below.setCell (Below.drew (Below.setCell (Below.setCell h2 hn _) hn _)) hn _) hn _
theorem After.iface {t103 R A G : Nat} {w w' : World} (hf : Fresh R A G w) (h : After t103 R A w w') : w'.cell? ⟨R, 3, none⟩ = some (.iface t103 (.pointer (some ⟨w.heap.size + 1, 0, none⟩))) := by
  obtain ⟨wx, hx, rfl⟩ := h
  rw [sc_ne (by omega), sc_ne (by omega), World.cell?_drew, sc_ne (by omega)]
  refine sc_eq (u := .nilIface) ?_
  rw [hx.below.cell (by rw [World.size_setCell]; exact hf.hR), sc_ne (by omega)]
  exact hf.r3
abbrev strs8 : List Value := [.string ⟨#[48]⟩, .string ⟨#[111]⟩, .string ⟨#[49]⟩, .string ⟨#[108]⟩, .string ⟨#[53]⟩, .string ⟨#[115]⟩, .string ⟨#[45]⟩, .string ⟨#[]⟩]
theorem fresh_of (w1 : World) (G t9 t83 : Nat) (hG : 8 ≤ G) (z : Array Value) :
    Fresh (w1.heap.size + 1) w1.heap.size G ((w1.drew.alloc (.cells (strs8.toArray ++ z) t9)).alloc (.cells #[.int .u32 0, .int .i32 0, .int .u32 0, .nilIface, .slice (some ⟨w1.heap.size, 0, none⟩) 8 G] t83)) := by
  have hs : (w1.drew.alloc (.cells (strs8.toArray ++ z) t9)).heap.size = w1.heap.size + 1 := by rw [World.size_alloc, World.size_drew]
  have r : ∀ j, ((w1.drew.alloc (.cells (strs8.toArray ++ z) t9)).alloc (.cells #[.int .u32 0, .int .i32 0, .int .u32 0, .nilIface, .slice (some ⟨w1.heap.size, 0, none⟩) 8 G] t83)).cell? ⟨w1.heap.size + 1, j, none⟩ = (#[.int .u32 0, .int .i32 0, .int .u32 0, .nilIface, .slice (some ⟨w1.heap.size, 0, none⟩) 8 G] : Array Value)[j]? := fun j => World.cell?_alloc_at _ _ _ _ hs.symm
  have c : ∀ j, j < 8 → ((w1.drew.alloc (.cells (strs8.toArray ++ z) t9)).alloc (.cells #[.int .u32 0, .int .i32 0, .int .u32 0, .nilIface, .slice (some ⟨w1.heap.size, 0, none⟩) 8 G] t83)).cell? ⟨w1.heap.size, j, none⟩ = strs8[j]? := fun j hj => by
    rw [World.cell?_alloc_past _ _ _ (by omega)]
    have := World.cell?_alloc_at (w := w1.drew) (strs8.toArray ++ z) t9 w1.heap.size j rfl
    rw [this, Array.getElem?_append_left (by simpa using hj)]
    simp
  refine ⟨by rw [World.size_alloc]; omega, by rw [World.size_alloc]; omega, by omega, hG, r 0, r 1, r 3, r 4, fun j => World.frozen?_alloc_at _ _ _ _ hs.symm, c 0 (by omega), c 1 (by omega), c 2 (by omega), c 3 (by omega), c 4 (by omega), c 5 (by omega), c 6 (by omega), c 7 (by omega)⟩
theorem plain_out (b : UInt8) : ((plainB (b.toNat : Int)).toList).map (fun n => UInt8.ofNat n.toNat) = outOf b := by
  unfold plainB outOf rep
  by_cases h0 : b = 48
  · subst h0; rfl
  by_cases h1 : b = 49
  · subst h1; rfl
  by_cases h2 : b = 53
  · subst h2; rfl
  by_cases h3 : b = 45
  · subst h3; rfl
  have e : ∀ c : UInt8, b ≠ c → ((b.toNat : Int) == (c.toNat : Int)) = false := fun c h => by
    refine beq_eq_false_iff_ne.2 (fun q => h (UInt8.toNat_inj.1 (by omega)))
  have e0 : ((b.toNat : Int) == 48) = false := e 48 h0
  have e1 : ((b.toNat : Int) == 49) = false := e 49 h1
  have e2 : ((b.toNat : Int) == 53) = false := e 53 h2
  have e3 : ((b.toNat : Int) == 45) = false := e 45 h3
  rw [e0, e1, e2, e3, if_neg h0, if_neg h1, if_neg h2, if_neg h3]
  simp
theorem plain_flat : ∀ l : List UInt8, ((l.map fun b => (b.toNat : Int)).filterMap plainB).map (fun n => UInt8.ofNat n.toNat) = l.flatMap outOf
  | [] => rfl
  | b :: l => by
    have h := plain_out b
    rw [List.map_cons, List.flatMap_cons, ← plain_flat l, ← h, List.filterMap_cons]
    cases plainB (b.toNat : Int) with
    | none => rfl
    | some x => rfl
theorem plain_is (s : ByteArray) : (⟨(s.data.toList.flatMap outOf).toArray⟩ : ByteArray) = plainOf s := by
  unfold plainOf strOfNums Go.Proofs.YtcmjbplnjjdcdaaW.PrintWords.bytesOf
  rw [plain_flat]
theorem post_str {w w' : World} {ok : Nat → Prop} {s : ByteArray} (h : Below w.heap.size w w') : Post [(.str, .no)] w ok [⟨.str, s⟩] (.string s) w' := by
  refine ⟨⟨fun _ => 0, fun _ => .bool, fun _ => .slice none 0 0, fun _ => .bool, fun _ _ => False⟩, [.string s], h, rfl, ?_, fun j hj => (by cases hj), fun i hi => (by cases hi)⟩
  refine ⟨rfl, [.string s], [], rfl, VR_no.2 (fun W hW => rfl), trivial, rfl⟩
theorem said_str {P : Program} {f : Nat} {al : List AV} {s : ByteArray} {fn : Func} (hf : P.funcs[f]? = some fn) (hname : (fn.name == "runtime.NumGoroutine") = false) (hb : fn.body.isNone = false)
    (h : ∀ w ok vs, AVRs w ok al vs → Calls P f vs.toArray w fun e w' => e = .returned (.string s) ∧ Below w.heap.size w w') : Said P [(.str, .no)] f al [⟨.str, s⟩] := by
  refine ⟨⟨fn, hf, hname, hb⟩, fun w ok vs hav => (h w ok vs hav).mono ?_⟩
  rintro e w' ⟨rfl, hb⟩
  exact post_str hb
end Rpl
end Go.Proofs.Ytcmjbplnjjdcdaa.Ref
