/- The proof system: an abstract machine over data, and that what it computes the code computes.
   Conditions: as each theorem states. -/
import Derived.Test.YthgbcbnmdioknaaK1
import Derived.WalkSpells
import Derived.Deep.LoopGhost
import Derived.Laws.Sem
import Derived.ChangeArms
import Derived.ChangeOld
import Derived.ChangeStays
import Derived.ReadAgain
import Derived.Below
import Derived.ChangeShapes
import Derived.WalkKit
import Derived.ProofKit
import Derived.OpenShut
import Derived.SizedLaws
set_option linter.unusedVariables false
set_option linter.unusedSimpArgs false
namespace Go.Proofs.Ythgbcbnmdioknaa.Ref
open Go.RowKit Go.Proofs.YthgbcbnmdioknaaW.PrintWords Go.Proofs.YthgbcbnmdioknaaW.PrintLast

section
variable {P : Program} {T : Tab} {G : Sigs} {F : Fx} {g : Gh} {st : St} {a : Act} {w : World} {o : Oper} {d : Nat} {l : List Nat} {wr : Wr}
theorem freshP_run {α : Type} {p : Pg α} {st : St} {x : α} : ∀ {ids L : List Nat}, (freshP d ids p).run st = some (x, L) → (∀ j ∈ ids, dom st (kR (rid d j)) = false) ∧ ∃ L', p.run st = some (x, L')
  | [], L, h => ⟨fun _ hj => (List.not_mem_nil hj).elim, L, h⟩
  | j :: ids, L, h => by
    obtain ⟨l, h1, h2, _⟩ := run_fresh h
    obtain ⟨h3, h4⟩ := freshP_run h2
    refine ⟨fun i hi => ?_, h4⟩
    rcases List.mem_cons.1 hi with rfl | hi
    · exact h1
    · exact h3 i hi
theorem goEffM_wr {gn : Nat} {xs : List Operand} {ts : List Nat} (h : (goEffM T G o gn xs ts).run st = some (.wr wr, l)) : False := by
  unfold goEffM at h
  split at h
  · split at h
    · obtain ⟨v, l1, l2, h1, h2, _⟩ := run_bind h
      split at h2
      · obtain ⟨n, l3, l4, h3, h4, _⟩ := run_bind h2
        obtain ⟨u, l5, l6, h5, h6, _⟩ := run_bind h4
        split at h6
        · obtain ⟨_, h7⟩ := run_chk h6
          have := run_ret h7
          cases this
        · exact run_fail h6
      · exact run_fail h2
    · exact run_fail h
  · exact run_fail h
theorem goEffB_wr {gn : Nat} {xs : List Operand} {ts : List Nat} (h : (goEffB T G o gn xs ts).run st = some (.wr wr, l)) : False := by
  unfold goEffB at h
  split at h
  · split at h
    · obtain ⟨v, l1, l2, h1, h2, _⟩ := run_bind h
      split at h2
      · obtain ⟨u, l3, h3, h4, _⟩ := run_rd h2
        split at h4
        · obtain ⟨_, h5⟩ := run_chk h4
          obtain ⟨z, l5, l6, h6, h7, _⟩ := run_bind h5
          obtain ⟨⟨as, ids⟩, l7, l8, h8, h9, _⟩ := run_bind h7
          obtain ⟨_, h10⟩ := run_chk h9
          obtain ⟨_, L, h11⟩ := freshP_run h10
          have := run_ret h11
          cases this
        · exact run_fail h4
      · exact run_fail h2
    · exact run_fail h
  · exact run_fail h
theorem goEffN_wr {gn : Nat} {xs : List Operand} {ts : List Nat} (h : (goEffN T G o gn xs ts).run st = some (.wr wr, l)) : False := by
  unfold goEffN at h
  split at h
  · split at h
    · obtain ⟨⟨as, ids⟩, l1, l2, h1, h2, _⟩ := run_bind h
      obtain ⟨_, h3⟩ := run_chk h2
      obtain ⟨l4, _, h5, _⟩ := run_fresh h3
      have := run_ret h5
      cases this
    · exact run_fail h
  · exact run_fail h
theorem goEff0_wr {f : Operand} {xs : List Operand} {ts : List Nat} (h : (goEff0 T G o f xs ts).run st = some (.wr wr, l)) : False := by
  unfold goEff0 at h
  split at h
  · obtain ⟨v, l1, l2, h1, h2, _⟩ := run_bind h
    split at h2
    · split at h2
      · obtain ⟨⟨as, le⟩, l3, l4, h3, h4, _⟩ := run_bind h2
        obtain ⟨cs, l5, l6, h5, h6, _⟩ := run_bind h4
        obtain ⟨_, h7⟩ := run_chk h6
        obtain ⟨_, L, h8⟩ := freshP_run h7
        have := run_ret h8
        cases this
      · exact run_fail h2
    · exact run_fail h2
  · exact run_fail h
theorem goEff_wr {f : Operand} {xs : List Operand} {ts : List Nat} (h : (goEff T G o f xs ts).run st = some (.wr wr, l)) : False := by
  unfold goEff at h
  split at h
  · split at h
    · exact goEffM_wr h
    · split at h
      · exact goEffB_wr h
      · split at h
        · exact goEffN_wr h
        · exact goEff0_wr h
  · exact goEff0_wr h
theorem op_call (hT : TabOk P T) (h : Rel F g st a w) {c : Call} (ho : o.op = .call c) (hn : ∀ d, o.dst = some d → F.slot d) (hr : (callEff T G o c).run st = some (.wr wr, l)) : OpOk P F o st wr a w := by
  unfold callEff at hr
  split at hr
  · rename_i hc
    split at hr
    · rename_i x S h1 h2
      exact op_len hT h ho hc h1 h2 hn hr
    · exact (run_fail hr).elim
  · rename_i hc
    split at hr
    · rename_i x S h1 h2
      exact op_cap hT h ho hc h1 h2 hn hr
    · exact (run_fail hr).elim
  · rename_i hc
    split at hr
    · rename_i s x S S' h1 h2
      split at hr
      · rename_i k hk
        exact op_zapp hT h ho hc h1 hk h2 hn hr
      · exact op_append hT h ho hc h1 S' h2 hn hr
    · exact (run_fail hr).elim
  · exact (goEff_wr hr).elim
  · exact (run_fail hr).elim
theorem op_nilCheck (h : Rel F g st a w) {x : Operand} (ho : o.op = .nilCheck x) (hn : ∀ d, o.dst = some d → F.slot d) (hr : (opEff T G o).run st = some (.wr wr, l)) : OpOk P F o st wr a w := by
  unfold opEff at hr
  rw [ho] at hr
  simp only at hr
  split at hr
  · rename_i d hd
    obtain ⟨v, l1, l2, h1, h2, _⟩ := run_bind hr
    split at h2
    · rename_i b p
      have := run_ret h2
      injection this with this
      subst this
      have hv := ev_TV h h1
      refine op_value h hd (hn d hd) (v := a.eval x) ?_ hv
      simp only [TVR] at hv
      simp [execOp, ho, hv.1]
    · exact (run_fail h2).elim
  · exact (run_fail hr).elim
theorem op_all (hT : TabOk P T) (h : Rel F g st a w) (hn : ∀ d, o.dst = some d → F.slot d) (hr : (opEff T G o).run st = some (.wr wr, l)) : OpOk P F o st wr a w := by
  cases ho : o.op with
  | move x => exact op_move h (.inl ho) hn hr
  | assign x => exact op_move h (.inr ho) hn hr
  | pick c x y => exact op_pick h ho hn hr
  | alloc E => exact op_alloc hT h ho hn hr
  | box E x => exact op_box hT h ho hn hr
  | build S ps => exact op_build hT h ho hn hr
  | buildSlice S n ps => exact op_buildSlice hT h ho hn hr
  | load L x => exact op_load hT h ho hn hr
  | store L x y => exact op_store hT h ho hr
  | binOp op t x y t' => exact op_bin hT h ho hn hr
  | unOp op t x => exact op_un h ho hn hr
  | nilCheck x => exact op_nilCheck h ho hn hr
  | convert S D x => exact op_convert hT h ho hn hr
  | makeFunc f first caps =>
    cases f with
    | func f => exact op_makeFunc h ho hn hr
    | _ => unfold opEff at hr; rw [ho] at hr; exact (run_fail hr).elim
  | makeSlice S x y => exact op_makeSlice hT h ho hn hr
  | slice S x lo hi mx =>
    cases mx with
    | none => exact op_slice hT h ho hn hr
    | some _ => unfold opEff at hr; rw [ho] at hr; exact (run_fail hr).elim
  | fieldAddr S x f => exact op_field hT h ho hn hr
  | field S x f => exact op_fieldv hT h ho hn hr
  | indexAddr S x i => exact op_indexAddr hT h ho hn hr
  | index S x i => exact op_index hT h ho hn hr
  | extract x n => exact op_extract h ho hn hr
  | call c => unfold opEff at hr; rw [ho] at hr; exact op_call hT h ho hn hr
  | _ => unfold opEff at hr; rw [ho] at hr; exact (run_fail hr).elim
end
end Go.Proofs.Ythgbcbnmdioknaa.Ref

namespace Go.Proofs.Ythgbcbnmdioknaa.Ref
open Go.RowKit Go.Proofs.YthgbcbnmdioknaaW.PrintWords Go.Proofs.YthgbcbnmdioknaaW.PrintLast

mutual
/-- A value that is handed over. -/
def AVR (w : World) (ok : Nat → Prop) : AV → Value → Prop
  | .val t x, v => ∃ cs, v = valOf t cs ∧ Kd.FK t.kd w ok x cs
  | .ref t x, v => ∃ a cs, v = .pointer (some a) ∧ Foot (fun W => t.kd.K W x cs ∧ Cells W a cs) w ok
  | .clo f caps, v => ∃ vs : List Value, v = .func (.func f) #[] vs.toArray ∧ AVRs w ok caps vs
  | .nil _ _, v => v = .slice none 0 0
  | .lend _ _ _, _ => False
def AVRs (w : World) (ok : Nat → Prop) : List AV → List Value → Prop
  | [], vs => vs = []
  | t :: ts, vs => ∃ v vs', vs = v :: vs' ∧ AVR w ok t v ∧ AVRs w ok ts vs'
end
/-- The rows that a result brings. -/
def OwnR (g : Gh) (w : World) : (t : Ty) → t.den → Mk → Prop
  | .slice e t, x, .own j => RowR g w j e t x
  | .pair a b, x, .pair m n => OwnR g w a x.1 m ∧ OwnR g w b x.2 n
  | _, _, _ => True
def ResR (g : Gh) (w : World) (ok : Nat → Prop) : Sig → Ret → List Value → Prop
  | [], [], vs => vs = []
  | (t, m) :: ms, ⟨t', x⟩ :: ds, vs => t' = t ∧ ∃ cs vs', vs = valOf t' cs :: vs' ∧ VR g (fun _ => true) w ok t' x m cs ∧ OwnR g w t' x m ∧ ResR g w ok ms ds vs'
  | _, _, _ => False
def tupled : List Value → Value
  | [v] => v
  | vs => .tuple vs.toArray
def okP (g : Gh) (ids : List Nat) (w : World) (ok : Nat → Prop) (k : Nat) : Prop := (ok k ∨ w.heap.size ≤ k) ∧ ∀ j ∈ ids, ¬ g.S j k
def Post (sg : Sig) (w : World) (ok : Nat → Prop) (r : Ret) (v : Value) (w' : World) : Prop :=
  ∃ (g : Gh) (vs : List Value), Below w.heap.size w w' ∧ v = tupled vs ∧ ResR g w' (okP g (sigIds sg) w ok) sg r vs ∧
    (∀ j ∈ sigIds sg, (g.ρ j).oneCell' = true ∧ ∀ k, g.S j k → w.heap.size ≤ k ∧ k < w'.heap.size) ∧
    (∀ i ∈ sigIds sg, ∀ j ∈ sigIds sg, i ≠ j → ∀ k, g.S i k → ¬ g.S j k)
/-- It returns, for these arguments, this. -/
def Said (P : Program) (sg : Sig) (f : Nat) (as : List AV) (r : Ret) : Prop :=
  (∃ fn, P.funcs[f]? = some fn ∧ (fn.name == "runtime.NumGoroutine") = false ∧ fn.body.isNone = false) ∧
  ∀ (w : World) (ok : Nat → Prop) (vs : List Value), AVRs w ok as vs → Calls P f vs.toArray w fun e w' => match e with
    | .returned v => Post sg w ok r v w'
    | _ => False

section
variable {P : Program} {T : Tab} {G : Sigs} {F : Fx} {g : Gh} {st : St} {a : Act} {w : World} {o : Oper} {d : Nat} {l : List Nat} {wr : Wr} {D : Nat → Bool} {ok ok' : Nat → Prop}
theorem full_loose {t : Ty} {x y : t.den} {m : Mk} {l : List Nat} {cs : List Value} (h : Rel F g st a w) (hf : (full t x m).run st = some (y, l)) (hv : VR g (dom st) w (F.ok g st) t x m cs) (hok : ∀ k, F.ok g st k → k < w.heap.size → ok k) (hlo : (idsT t m).isEmpty = true ∨ ∀ k, k < w.heap.size → (F.ok0 k ∨ F.w0.heap.size ≤ k) ∨ F.lent k → ok k) : Kd.FK t.kd w ok y cs := by
  have h1 := full_FK h hf hv
  refine Foot.mv h1 (fun _ _ _ => rfl) ?_
  rintro k (hk | ⟨r, hr, hk⟩) hlt
  · exact hok k hk hlt
  · rcases hlo with he | hall
    · have : idsT t m = [] := by simpa using he
      rw [this] at hr; cases hr
    · have h2 := full_alive hf r hr
      rcases (h.newR r h2 k hk).1 with h3 | h3
      · exact hall k hlt (.inl (.inr h3))
      · exact hall k hlt (.inr h3)
theorem capP_AVR (h : Rel F g st a w) {tv : TV} {av : AV} {l : List Nat} {v : Value} (hr : (capP tv).run st = some (av, l)) (hv : TVR g (dom st) w (F.ok g st) tv v) (hok : ∀ k, F.ok g st k → k < w.heap.size → ok k) (hlo : isBox tv = false ∨ ∀ k, k < w.heap.size → (F.ok0 k ∨ F.w0.heap.size ≤ k) ∨ F.lent k → ok k) : AVR w ok av v := by
  unfold capP at hr
  split at hr
  · have := run_ret hr
    subst this
    simp only [TVR] at hv
    obtain ⟨a, cs, e, hv⟩ := hv
    exact ⟨a, cs, e, Foot.mv hv (fun _ _ _ => rfl) hok⟩
  · rename_i b
    have hall := hlo.resolve_left (by simp [isBox])
    obtain ⟨u, l1, h1, h2, _⟩ := run_rd hr
    split at h2
    · rename_i t x m
      obtain ⟨y, l2, l3, h3, h4, _⟩ := run_bind h2
      have := run_ret h4
      subst this
      obtain ⟨t', x', m', e1, hb, cs, ty, hh, hc⟩ := h.boxes b _ h1
      injection e1 with e1 e2 e3
      subst e1
      cases e2
      cases e3
      simp only [TVR] at hv
      have hfk : Kd.FK t.kd w ok y cs := full_loose h h3 hc hok (.inr hall)
      have h0 : offp (g.τ b) [] = 0 := by cases g.τ b <;> simp [offp]
      refine ⟨⟨g.β b, 0, none⟩, cs, by rw [hv.1, h0], fun W hW => ⟨hfk W hW, ?_⟩⟩
      have hbl := heap_some_lt hh
      have hokb : ok (g.β b) := by
        rcases h.newB b ⟨_, h1⟩ with h5 | h5
        · exact hall _ hbl (.inl (.inr h5))
        · exact hall _ hbl (.inr h5)
      have hh' : W.heap[g.β b]? = some (.cells ([] ++ cs ++ []).toArray ty (0, 0)) := by
        rw [hW _ hokb hbl, hh]; simp
      exact cells_of_block hh' rfl
    · exact (run_fail h2).elim
  · exact (run_fail hr).elim
theorem capsP_AVR (h : Rel F g st a w) (hok : ∀ k, F.ok g st k → k < w.heap.size → ok k) : ∀ {ts : List TV} {as : List AV} {l : List Nat} {vs : List Value}, (capsP ts).run st = some (as, l) → TVRs g (dom st) w (F.ok g st) ts vs → (ts.any isBox = false ∨ ∀ k, k < w.heap.size → (F.ok0 k ∨ F.w0.heap.size ≤ k) ∨ F.lent k → ok k) → AVRs w ok as vs
  | [], as, l, vs, hr, hv, _ => by
    have := run_ret hr
    subst this
    simp only [TVRs] at hv
    exact hv
  | t :: ts, as, l, vs, hr, hv, hlo => by
    obtain ⟨x, l1, l2, h1, h2, _⟩ := run_bind hr
    obtain ⟨xs, l3, l4, h3, h4, _⟩ := run_bind h2
    have := run_ret h4
    subst this
    simp only [TVRs] at hv
    obtain ⟨v, vs', e, hv1, hv2⟩ := hv
    refine ⟨v, vs', e, capP_AVR h h1 hv1 hok ?_, capsP_AVR h hok h3 hv2 ?_⟩
    · refine hlo.imp (fun h => ?_) id
      rw [List.any_cons, Bool.or_eq_false_iff] at h
      exact h.1
    · refine hlo.imp (fun h => ?_) id
      rw [List.any_cons, Bool.or_eq_false_iff] at h
      exact h.2
theorem argP_AVR (h : Rel F g st a w) {tv : TV} {av : AV} {l : List Nat} {v : Value} (hr : (argP tv).run st = some (av, l)) (hv : TVR g (dom st) w (F.ok g st) tv v) (hok : ∀ k, F.ok g st k → k < w.heap.size → ok k) (hlo : loose tv = false ∨ ∀ k, k < w.heap.size → (F.ok0 k ∨ F.w0.heap.size ≤ k) ∨ F.lent k → ok k) : AVR w ok av v := by
  unfold argP at hr
  split at hr
  · have := run_ret hr
    subst this
    simp only [TVR, VR] at hv
    obtain ⟨cs, e, hv⟩ := hv
    rw [e, hv]
    rfl
  · rename_i t x m _
    obtain ⟨y, l1, l2, h1, h2, _⟩ := run_bind hr
    have := run_ret h2
    subst this
    simp only [TVR] at hv
    obtain ⟨cs, e, hv⟩ := hv
    refine ⟨cs, e, full_loose h h1 hv hok (hlo.imp (fun h => ?_) id)⟩
    simpa [loose] using h
  · rename_i f caps
    obtain ⟨y, l1, l2, h1, h2, _⟩ := run_bind hr
    have := run_ret h2
    subst this
    simp only [TVR] at hv
    obtain ⟨vs, e, hv⟩ := hv
    exact ⟨vs, e, capsP_AVR h hok h1 hv (hlo.imp (fun h => by simpa [loose] using h) id)⟩
  · rename_i h1 h2
    refine capP_AVR h hr hv hok (hlo.imp (fun h => ?_) id)
    cases tv with
    | v t x m => exact (h1 _ _ _ rfl).elim
    | clo f c => exact (h2 _ _ rfl).elim
    | box b p => cases h
    | _ => rfl
theorem argsP_AVR (h : Rel F g st a w) (hok : ∀ k, F.ok g st k → k < w.heap.size → ok k) : ∀ {xs : List Operand} {ts : List Nat} {as : List AV} {b : Bool} {l : List Nat}, (argsP T xs ts).run st = some ((as, b), l) → (b = false ∨ ∀ k, k < w.heap.size → (F.ok0 k ∨ F.w0.heap.size ≤ k) ∨ F.lent k → ok k) → AVRs w ok as (xs.map a.eval)
  | [], ts, as, b, l, hr, _ => by
    have := run_ret hr
    injection this with e1 e2
    subst e1
    rfl
  | x :: xs, ts, as, b, l, hr, hlo => by
    obtain ⟨v, l1, l2, h1, h2, _⟩ := run_bind hr
    obtain ⟨av, l3, l4, h3, h4, _⟩ := run_bind h2
    obtain ⟨⟨as', b'⟩, l5, l6, h5, h6, _⟩ := run_bind h4
    have := run_ret h6
    injection this with e1 e2
    subst e1
    have hb : b = (loose v || b') := e2.symm
    refine ⟨_, _, rfl, argP_AVR h h3 (evt_TV h h1) hok ?_, argsP_AVR h hok h5 ?_⟩
    · refine hlo.imp (fun h => ?_) id
      rw [hb, Bool.or_eq_false_iff] at h
      exact h.1
    · refine hlo.imp (fun h => ?_) id
      rw [hb, Bool.or_eq_false_iff] at h
      exact h.2
theorem AVRs_app : ∀ {as bs : List AV} {us vs : List Value}, AVRs w ok as us → AVRs w ok bs vs → AVRs w ok (as ++ bs) (us ++ vs)
  | [], bs, us, vs, h, h' => by
    simp only [AVRs] at h
    subst h
    exact h'
  | a :: as, bs, us, vs, h, h' => by
    simp only [AVRs] at h
    obtain ⟨v, vs', e, h1, h2⟩ := h
    subst e
    exact ⟨v, vs' ++ vs, rfl, h1, AVRs_app h2 h'⟩

theorem own_VR : ∀ {t : Ty} {x : t.den} {m : Mk} {cs : List Value}, ownable t m = true → VR g D w ok t x m cs → VR g D w ok' t x m cs
  | .int _, x, m, cs, _, h => by simp only [VR] at h ⊢; exact fun W hW => Foot.now h
  | .bool, x, m, cs, _, h => by simp only [VR] at h ⊢; exact fun W hW => Foot.now h
  | .str, x, m, cs, _, h => by simp only [VR] at h ⊢; exact fun W hW => Foot.now h
  | .slice _ _, x, .own r, cs, _, h => by simp only [VR] at h ⊢; exact h
  | .slice _ _, x, .nil, cs, _, h => by simp only [VR] at h ⊢; exact h
  | .slice _ _, x, .no, cs, ho, h => by cases ho
  | .slice _ _, x, .pair _ _, cs, ho, h => by cases ho
  | .pair a b, x, m, cs, ho, h => by
    simp only [ownable, Bool.and_eq_true] at ho
    have hp : ∀ {m : Mk}, (∀ p q, m ≠ .pair p q) → VR g D w ok (.pair a b) x m cs → ownable a m.fst = true → ownable b m.snd = true → VR g D w ok' (.pair a b) x m cs := by
      intro m hm h h1 h2
      have hf : m.fst = .no := by cases m <;> first | rfl | exact (hm _ _ rfl).elim
      have hs : m.snd = .no := by cases m <;> first | rfl | exact (hm _ _ rfl).elim
      rw [hf] at h1
      rw [hs] at h2
      have hF : Kd.FK (Ty.pair a b).kd w ok x cs := by cases m <;> first | (simp only [VR] at h; exact h) | exact (hm _ _ rfl).elim
      obtain ⟨ha, hb⟩ := FK_pair hF
      have ha' := VR_no.1 (own_VR h1 ((VR_no (g := g) (D := D)).2 ha))
      have hb' := VR_no.1 (own_VR h2 ((VR_no (g := g) (D := D)).2 hb))
      have := pair_FK ha' hb'
      rw [List.take_append_drop] at this
      cases m <;> first | (simp only [VR]; exact this) | exact (hm _ _ rfl).elim
    cases m with
    | pair p q =>
      simp only [VR] at h ⊢
      obtain ⟨c0, c1, e, h0, h1⟩ := h
      exact ⟨c0, c1, e, own_VR ho.1 h0, own_VR ho.2 h1⟩
    | no => exact hp (fun _ _ e => by cases e) h ho.1 ho.2
    | nil => exact hp (fun _ _ e => by cases e) h ho.1 ho.2
    | own r => exact hp (fun _ _ e => by cases e) h ho.1 ho.2

theorem takeRows_get {gc : Gh} {d : Nat} : ∀ {t : Ty} {x : t.den} {m : Mk}, OwnR gc w t x m → ∀ p ∈ takeRows t x m d, ∃ j ∈ idsT t m, p.1 = kR (rid d j) ∧ ∃ e t xs, p.2 = some (.row e t xs) ∧ RowR gc w j e t xs
  | .slice e t, x, .own j, h, p, hp => by
    have := List.mem_singleton.1 hp
    subst this
    exact ⟨j, by simp [idsT], rfl, e, t, x, rfl, h⟩
  | .pair a b, x, .pair m n, h, p, hp => by
    rcases List.mem_append.1 hp with hp | hp
    · obtain ⟨j, hj, r⟩ := takeRows_get h.1 p hp
      exact ⟨j, List.mem_append.2 (.inl hj), r⟩
    · obtain ⟨j, hj, r⟩ := takeRows_get h.2 p hp
      exact ⟨j, List.mem_append.2 (.inr hj), r⟩
  | .slice _ _, x, .no, _, p, hp => (List.not_mem_nil hp).elim
  | .slice _ _, x, .nil, _, p, hp => (List.not_mem_nil hp).elim
  | .slice _ _, x, .pair _ _, _, p, hp => (List.not_mem_nil hp).elim
  | .pair _ _, x, .no, _, p, hp => (List.not_mem_nil hp).elim
  | .pair _ _, x, .nil, _, p, hp => (List.not_mem_nil hp).elim
  | .pair _ _, x, .own _, _, p, hp => (List.not_mem_nil hp).elim
  | .int _, x, _, _, p, hp => (List.not_mem_nil hp).elim
  | .bool, x, _, _, p, hp => (List.not_mem_nil hp).elim
  | .str, x, _, _, p, hp => (List.not_mem_nil hp).elim
theorem takeVals_get {gc : Gh} {d : Nat} : ∀ {sg : Sig} {r : Ret} {vs : List Value}, ResR gc w ok sg r vs → ∀ p ∈ (takeVals d sg r).1, ∃ j ∈ sigIds sg, p.1 = kR (rid d j) ∧ ∃ e t xs, p.2 = some (.row e t xs) ∧ RowR gc w j e t xs
  | [], [], _, _, p, hp => (List.not_mem_nil hp).elim
  | [], _ :: _, _, h, _, _ => h.elim
  | _ :: _, [], _, h, _, _ => h.elim
  | (t, m) :: ms, ⟨t', x⟩ :: ds, vs, h, p, hp => by
    obtain ⟨e, cs, vs', _, _, h3, h4⟩ := h
    subst e
    rcases List.mem_append.1 hp with hp | hp
    · obtain ⟨j, hj, r⟩ := takeRows_get h3 p hp
      exact ⟨j, List.mem_append.2 (.inl hj), r⟩
    · obtain ⟨j, hj, r⟩ := takeVals_get h4 p hp
      exact ⟨j, List.mem_append.2 (.inr hj), r⟩
theorem dom_mem {st : St} {k : Nat} : dom st k = true ↔ ∃ v, (k, v) ∈ st := by
  induction st with
  | nil => simp [dom]
  | cons p st ih =>
    obtain ⟨k', v'⟩ := p
    by_cases hk : k' = k
    · subst hk
      exact ⟨fun _ => ⟨v', List.mem_cons_self ..⟩, fun _ => dom_cons_same _ _ _⟩
    · rw [dom_cons_ne _ _ hk, ih]
      constructor
      · rintro ⟨v, hv⟩; exact ⟨v, List.mem_cons_of_mem _ hv⟩
      · rintro ⟨v, hv⟩
        rcases List.mem_cons.1 hv with e | hv
        · injection e with e1 e2; exact (hk e1.symm).elim
        · exact ⟨v, hv⟩
theorem get_mem {st : St} {k : Nat} {v : Val} (h : get st k = some v) : (k, some v) ∈ st := by
  induction st with
  | nil => simp [get] at h
  | cons p st ih =>
    obtain ⟨k', v'⟩ := p
    by_cases hk : k' = k
    · subst hk
      rw [get_cons_same] at h
      subst h
      exact List.mem_cons_self ..
    · rw [get_cons_ne _ _ hk] at h
      exact List.mem_cons_of_mem _ (ih h)
theorem idsT_no : ∀ t : Ty, idsT t .no = []
  | .slice _ _ => rfl
  | .pair a b => by show idsT a .no ++ idsT b .no = []; rw [idsT_no a, idsT_no b]; rfl
  | .int _ => rfl
  | .bool => rfl
  | .str => rfl
theorem takeRows_dom {d : Nat} : ∀ {t : Ty} {x : t.den} {m : Mk}, ∀ j ∈ idsT t m, ∃ v, (kR (rid d j), v) ∈ takeRows t x m d
  | .slice e t, x, .own i, j, hj => by
    have := List.mem_singleton.1 hj
    subst this
    exact ⟨_, List.mem_singleton.2 rfl⟩
  | .pair a b, x, .pair m n, j, hj => by
    rcases List.mem_append.1 hj with hj | hj
    · obtain ⟨v, hv⟩ := takeRows_dom (d := d) (x := x.1) j hj
      exact ⟨v, List.mem_append.2 (.inl hv)⟩
    · obtain ⟨v, hv⟩ := takeRows_dom (d := d) (x := x.2) j hj
      exact ⟨v, List.mem_append.2 (.inr hv)⟩
  | .slice _ _, x, .no, j, hj => (List.not_mem_nil hj).elim
  | .slice _ _, x, .nil, j, hj => (List.not_mem_nil hj).elim
  | .slice _ _, x, .pair _ _, j, hj => (List.not_mem_nil hj).elim
  | .pair a b, x, .no, j, hj => by
    have hj : j ∈ idsT a .no ++ idsT b .no := hj
    rw [idsT_no, idsT_no] at hj; cases hj
  | .pair a b, x, .nil, j, hj => by
    have hj : j ∈ idsT a .no ++ idsT b .no := hj
    rw [idsT_no, idsT_no] at hj; cases hj
  | .pair a b, x, .own _, j, hj => by
    have hj : j ∈ idsT a .no ++ idsT b .no := hj
    rw [idsT_no, idsT_no] at hj; cases hj
  | .int _, x, _, j, hj => (List.not_mem_nil hj).elim
  | .bool, x, _, j, hj => (List.not_mem_nil hj).elim
  | .str, x, _, j, hj => (List.not_mem_nil hj).elim
theorem takeVals_dom {gc : Gh} {d : Nat} : ∀ {sg : Sig} {r : Ret} {vs : List Value}, ResR gc w ok sg r vs → ∀ j ∈ sigIds sg, ∃ v, (kR (rid d j), v) ∈ (takeVals d sg r).1
  | [], [], _, _, j, hj => (List.not_mem_nil hj).elim
  | [], _ :: _, _, h, _, _ => h.elim
  | _ :: _, [], _, h, _, _ => h.elim
  | (t, m) :: ms, ⟨t', x⟩ :: ds, vs, h, j, hj => by
    obtain ⟨e, cs, vs', _, _, h3, h4⟩ := h
    subst e
    rcases List.mem_append.1 hj with hj | hj
    · obtain ⟨v, hv⟩ := takeRows_dom (d := d) (x := x) j hj
      exact ⟨v, List.mem_append.2 (.inl hv)⟩
    · obtain ⟨v, hv⟩ := takeVals_dom (d := d) h4 j hj
      exact ⟨v, List.mem_append.2 (.inr hv)⟩
/-- A result's word, in the caller's numbers. -/
theorem shift_VR {gc g' : Gh} {D' : Nat → Bool} {d : Nat} : ∀ {t : Ty} {x : t.den} {m : Mk} {cs : List Value}, (∀ j ∈ idsT t m, g'.ρ (rid d j) = gc.ρ j ∧ D' (kR (rid d j)) = true) →
    VR gc (fun _ => true) w ok t x m cs → VR g' D' w ok t x (m.shift d) cs
  | .slice _ _, x, .own j, cs, hi, h => by
    simp only [VR, Mk.shift] at h ⊢
    have := hi j (by simp [idsT])
    exact ⟨by rw [this.1]; exact h.1, this.2⟩
  | .slice _ _, x, .nil, cs, hi, h => by simp only [VR, Mk.shift] at h ⊢; exact h
  | .slice _ _, x, .no, cs, hi, h => by simp only [VR, Mk.shift] at h ⊢; exact h
  | .slice _ _, x, .pair _ _, cs, hi, h => by simp only [VR, Mk.shift] at h ⊢; exact h
  | .pair a b, x, .pair m n, cs, hi, h => by
    simp only [VR, Mk.shift] at h ⊢
    obtain ⟨c0, c1, e, h0, h1⟩ := h
    exact ⟨c0, c1, e, shift_VR (fun j hj => hi j (List.mem_append.2 (.inl hj))) h0, shift_VR (fun j hj => hi j (List.mem_append.2 (.inr hj))) h1⟩
  | .pair _ _, x, .no, cs, hi, h => by simp only [VR, Mk.shift] at h ⊢; exact h
  | .pair _ _, x, .nil, cs, hi, h => by simp only [VR, Mk.shift] at h ⊢; exact h
  | .pair _ _, x, .own _, cs, hi, h => by simp only [VR, Mk.shift] at h ⊢; exact h
  | .int _, x, _, cs, hi, h => by simp only [VR] at h ⊢; exact h
  | .bool, x, _, cs, hi, h => by simp only [VR] at h ⊢; exact h
  | .str, x, _, cs, hi, h => by simp only [VR] at h ⊢; exact h
theorem VR_ok {g : Gh} {D : Nat → Bool} {t : Ty} {x : t.den} {m : Mk} {cs : List Value} (ho : ∀ k, ok k → k < w.heap.size → ok' k) (h : VR g D w ok t x m cs) : VR g D w ok' t x m cs :=
  VR.mv (g := g) (g' := g) (D := D) (D' := D) (w := w) (w' := w) ⟨fun _ h => h, fun _ _ => rfl, fun _ _ => rfl, fun _ _ => rfl, fun _ _ => rfl, fun _ _ _ => rfl, ho⟩ h
theorem takeVals_TV {gc g' : Gh} {D' : Nat → Bool} {d : Nat} : ∀ {sg : Sig} {r : Ret} {vs : List Value}, (∀ j ∈ sigIds sg, g'.ρ (rid d j) = gc.ρ j ∧ D' (kR (rid d j)) = true) → (resOk sg = true ∨ ∀ k, ok k → k < w.heap.size → ok' k) →
    ResR gc w ok sg r vs → TVRs g' D' w ok' (takeVals d sg r).2 vs
  | [], [], _, _, _, h => h
  | [], _ :: _, _, _, _, h => h.elim
  | _ :: _, [], _, _, _, h => h.elim
  | (t, m) :: ms, ⟨t', x⟩ :: ds, vs, hi, ho, h => by
    obtain ⟨e, cs, vs', h1, h2, h3, h4⟩ := h
    subst e
    simp only [takeVals, TVRs, TVR]
    refine ⟨_, vs', h1, ⟨cs, rfl, shift_VR (fun j hj => hi j (List.mem_append.2 (.inl hj))) ?_⟩, takeVals_TV (fun j hj => hi j (List.mem_append.2 (.inr hj))) ?_ h4⟩
    · rcases ho with ho | ho
      · simp only [resOk, Bool.and_eq_true] at ho
        exact own_VR ho.1 h2
      · exact VR_ok ho h2
    · rcases ho with ho | ho
      · simp only [resOk, Bool.and_eq_true] at ho
        exact .inl ho.2
      · exact .inr ho
end
end Go.Proofs.Ythgbcbnmdioknaa.Ref

namespace Go.Proofs.Ythgbcbnmdioknaa.Ref
open Go.RowKit Go.Proofs.YthgbcbnmdioknaaW.PrintWords Go.Proofs.YthgbcbnmdioknaaW.PrintLast

/-- The rows that a call at slot d has brought. -/
def byCall (d : Nat) (ids : List Nat) (r : Nat) : Bool := Nat.beq (r / 8) d && ids.contains (r % 8)
def ghCall (g gc : Gh) (d : Nat) (ids : List Nat) : Gh := { g with
  ρ := fun r => if byCall d ids r then gc.ρ (r % 8) else g.ρ r
  σ := fun r => if byCall d ids r then gc.σ (r % 8) else g.σ r
  S := fun r => if byCall d ids r then gc.S (r % 8) else g.S r }
theorem byCall_rid {d j : Nat} {ids : List Nat} (hj : j ∈ ids) (h8 : ∀ j ∈ ids, j < 8) : byCall d ids (rid d j) = true := by
  have := h8 j hj
  have h1 : rid d j / 8 = d := by unfold rid; omega
  have h2 : rid d j % 8 = j := by unfold rid; omega
  unfold byCall
  rw [h1, h2]
  simp [hj]
theorem byCall_spec {d r : Nat} {ids : List Nat} (h : byCall d ids r = true) : ∃ j ∈ ids, r = rid d j ∧ r % 8 = j := by
  unfold byCall at h
  simp only [Bool.and_eq_true] at h
  have h1 := Nat.eq_of_beq_eq_true h.1
  have h2 : r % 8 ∈ ids := by simpa using h.2
  exact ⟨r % 8, h2, by unfold rid; omega, rfl⟩

section
variable {P : Program} {T : Tab} {G : Sigs} {F : Fx} {g : Gh} {st : St} {a : Act} {w : World} {o : Oper} {d : Nat} {l : List Nat} {wr : Wr} {D : Nat → Bool} {ok ok' : Nat → Prop}
theorem postOf_T {d i : Nat} {sg : Sig} {r : Ret} (hrow : ∀ p ∈ (takeVals d sg r).1, ∃ j ∈ sigIds sg, p.1 = kR (rid d j)) : (dom (postOf d sg r) (kT i) = true ↔ i = d) ∧ (∀ v, get (postOf d sg r) (kT i) = some v → i = d ∧ v = .tv (match (takeVals d sg r).2 with
    | [v] => v
    | vs => .tup vs)) := by
  have hno : dom (takeVals d sg r).1 (kT i) = false := by
    cases e : dom (takeVals d sg r).1 (kT i) with
    | false => rfl
    | true =>
      obtain ⟨v, hv⟩ := dom_mem.1 e
      obtain ⟨j, _, e⟩ := hrow _ hv
      exact (kT_kR _ _ e).elim
  unfold postOf
  constructor
  · rw [dom_app, hno, Bool.false_or]
    by_cases e : i = d
    · subst e; simp [dom_cons_same]
    · rw [dom_one_ne _ (fun e' => e (kT_inj e').symm)]
      simp [e]
  · intro v hv
    rw [get_app_out hno] at hv
    by_cases e : i = d
    · subst e
      rw [get_cons_same] at hv
      injection hv with hv
      exact ⟨rfl, hv.symm⟩
    · rw [get_cons_ne _ _ (fun e' => e (kT_inj e').symm)] at hv
      cases hv
theorem postOf_B {d b : Nat} {sg : Sig} {r : Ret} (hrow : ∀ p ∈ (takeVals d sg r).1, ∃ j ∈ sigIds sg, p.1 = kR (rid d j)) : dom (postOf d sg r) (kB b) = false := by
  cases e : dom (postOf d sg r) (kB b) with
  | false => rfl
  | true =>
    obtain ⟨v, hv⟩ := dom_mem.1 e
    rcases List.mem_append.1 hv with hv | hv
    · obtain ⟨j, _, e⟩ := hrow _ hv
      exact (kB_kR _ _ e).elim
    · have := List.mem_singleton.1 hv
      injection this with e _
      exact (kT_kB _ _ e.symm).elim
theorem postOf_R {d q : Nat} {sg : Sig} {r : Ret} (hrow : ∀ p ∈ (takeVals d sg r).1, ∃ j ∈ sigIds sg, p.1 = kR (rid d j)) (hdom : ∀ j ∈ sigIds sg, ∃ v, (kR (rid d j), v) ∈ (takeVals d sg r).1) (h8 : ∀ j ∈ sigIds sg, j < 8) : dom (postOf d sg r) (kR q) = byCall d (sigIds sg) q := by
  cases e : byCall d (sigIds sg) q with
  | true =>
    obtain ⟨j, hj, rfl, _⟩ := byCall_spec e
    obtain ⟨v, hv⟩ := hdom j hj
    exact dom_mem.2 ⟨v, List.mem_append.2 (.inl hv)⟩
  | false =>
    cases e' : dom (postOf d sg r) (kR q) with
    | false => rfl
    | true =>
      obtain ⟨v, hv⟩ := dom_mem.1 e'
      rcases List.mem_append.1 hv with hv | hv
      · obtain ⟨j, hj, e2⟩ := hrow _ hv
        rw [kR_inj e2, byCall_rid hj h8] at e
        cases e
      · have := List.mem_singleton.1 hv
        injection this with e _
        exact (kT_kR _ _ e.symm).elim
theorem tupled_TV {D : Nat → Bool} : ∀ {ts : List TV} {vs : List Value}, TVRs g D w ok ts vs → TVR g D w ok (match ts with
    | [v] => v
    | vs => .tup vs) (tupled vs)
  | [], vs, h => by
    simp only [TVRs] at h
    subst h
    simp only [TVR, tupled]
    exact ⟨[], rfl, by simp only [TVRs]⟩
  | [t], vs, h => by
    simp only [TVRs] at h
    obtain ⟨v, vs', e, h1, e'⟩ := h
    subst e'
    subst e
    exact h1
  | t :: t' :: ts, vs, h => by
    have h' := h
    simp only [TVRs] at h
    obtain ⟨v, vs', e, h1, v', vs'', e', h2, h3⟩ := h
    subst e'
    subst e
    simp only [TVR, tupled]
    exact ⟨_, rfl, h'⟩
theorem Rel.called (h : Rel F g st a w) {d : Nat} (hd : F.slot d) {sg : Sig} {r : Ret} {v : Value} {w' : World} (h8 : ∀ j ∈ sigIds sg, j < 8) (hfr : ∀ j ∈ sigIds sg, dom st (kR (rid d j)) = false)
    (hok : resOk sg = true ∨ ∀ k, ok k → k < w.heap.size → F.ok g st k) (hp : Post sg w ok r v w') : ∃ g', Rel F g' (postOf d sg r ++ st) (a.put (some d) v) w' := by
  obtain ⟨gc, vs, hbl, hv, hres, hid, hdis⟩ := hp
  have hrow := takeVals_get (d := d) hres
  have hrow1 : ∀ p ∈ (takeVals d sg r).1, ∃ j ∈ sigIds sg, p.1 = kR (rid d j) := fun p hp => by obtain ⟨j, hj, e, _⟩ := hrow p hp; exact ⟨j, hj, e⟩
  have hdom := takeVals_dom (d := d) hres
  have hT := fun i => postOf_T (i := i) hrow1
  have hB := fun b => postOf_B (b := b) hrow1
  have hR := fun q => postOf_R (q := q) hrow1 hdom h8
  have hnew : ∀ {q}, dom st (kR q) = true → byCall d (sigIds sg) q = false := by
    intro q hq
    cases e : byCall d (sigIds sg) q with
    | false => rfl
    | true =>
      obtain ⟨j, hj, rfl, _⟩ := byCall_spec e
      rw [hfr j hj] at hq
      cases hq
  have hSnew : ∀ {q}, byCall d (sigIds sg) q = true → ∀ k, (ghCall g gc d (sigIds sg)).S q k → w.heap.size ≤ k ∧ k < w'.heap.size := by
    intro q hq k hk
    have hk' : gc.S (q % 8) k := by simpa [ghCall, hq] using hk
    obtain ⟨j, hj, _, e⟩ := byCall_spec hq
    rw [e] at hk'
    exact (hid j hj).2 k hk'
  have hSold : ∀ {q}, byCall d (sigIds sg) q = false → (ghCall g gc d (sigIds sg)).S q = g.S q := by
    intro q hq
    simp [ghCall, hq]
  have hold : ∀ {q}, Alive (postOf d sg r ++ st) (kR q) → byCall d (sigIds sg) q = false → Alive st (kR q) := by
    intro q ha hq
    exact (alive_app_out (by rw [hR, hq])).1 ha
  refine ⟨ghCall g gc d (sigIds sg), ?_⟩
  refine h.upd _ (postOf d sg r) _ w' (fun _ => False) (by rw [put_size, h.size]) (fun i hi => by cases e : dom (postOf d sg r) (kT i) with | false => rfl | true => have h1 := (hT i).1.1 e; have h2 := hd.1; omega) (by rw [put_defers, h.defers]) hbl.os hbl.tape hbl.output hbl.size (fun k hk _ => hbl.block k hk) (fun _ hk => hk.elim) (fun _ _ => rfl) (fun _ _ => rfl) ?_ ?_ ?_ ?_ (fun _ _ _ hk => hk) (fun _ _ _ _ _ hk => hk) ?_ ?_ ?_ ?_ ?_ ?_ ?_ ?_
  · intro q hq; simp [ghCall, hnew hq]
  · intro q hq; simp [ghCall, hnew hq]
  · intro q _ hq
    rw [hR] at hq
    exact hSold hq
  · rintro k hk (⟨b, hb, e⟩ | ⟨q, hq, e⟩)
    · exact .inl ⟨b, (alive_app_out (hB b)).1 hb, e⟩
    · cases hc : byCall d (sigIds sg) q with
      | true =>
        have := hSnew hc k e
        omega
      | false =>
        rw [hSold hc] at e
        exact .inr ⟨q, hold hq hc, e⟩
  · intro i hi
    refine put_ne (fun e => ?_)
    rw [(hT i).1.2 e] at hi
    cases hi
  · intro hmv i v' hv'
    obtain ⟨e1, e2⟩ := (hT i).2 v' hv'
    subst e1
    subst e2
    refine ⟨_, rfl, ?_⟩
    rw [put_same (by rw [h.size]; exact hd.2), hv]
    refine tupled_TV (takeVals_TV (gc := gc) (ok := okP gc (sigIds sg) w ok) (fun j hj => ?_) ?_ hres)
    · have hb := byCall_rid (d := i) hj h8
      have h2 : rid i j % 8 = j := by have := h8 j hj; unfold rid; omega
      refine ⟨by simp [ghCall, hb, h2], ?_⟩
      rw [dom_app, hR, hb, Bool.true_or]
    · refine hok.imp id (fun hok k hk hlt => ?_)
      have hlim : F.w0.heap.size ≤ w.heap.size := h.grow
      by_cases hkl : k < w.heap.size
      · have hk1 : ok k := by
          rcases hk.1 with h1 | h1
          · exact h1
          · omega
        have := hok k hk1 hkl
        exact hmv.ok k this hkl
      · refine ⟨.inr (by omega), ?_⟩
        rintro (⟨b, hb, e⟩ | ⟨q, hq, e⟩)
        · have := h.boxLt ((alive_app_out (hB b)).1 hb)
          have e' : g.β b = k := e
          omega
        · cases hc : byCall i (sigIds sg) q with
          | true =>
            have e' : gc.S (q % 8) k := by simpa [ghCall, hc] using e
            obtain ⟨j, hj, _, ej⟩ := byCall_spec hc
            rw [ej] at e'
            exact hk.2 j hj e'
          | false =>
            rw [hSold hc] at e
            have := (h.newR q (hold hq hc) k e).2
            omega
  · intro _ b v' hv'
    have := dom_of_get hv'
    rw [hB b] at this
    cases this
  · intro q v' hv'
    have hc : byCall d (sigIds sg) q = true := by rw [← hR]; exact dom_of_get hv'
    rcases List.mem_append.1 (get_mem hv') with hm | hm
    · obtain ⟨j, hj, e, e', t, xs, e2, hrr⟩ := hrow _ hm
      injection e2 with e2
      have eq : q = rid d j := kR_inj e
      have h2 : q % 8 = j := by have := h8 j hj; rw [eq]; unfold rid; omega
      refine ⟨e', t, xs, e2, ?_, fun k hk => ?_⟩
      · refine ⟨by show (ghCall g gc d (sigIds sg)).σ q = t; simp only [ghCall, hc, if_true, h2]; exact hrr.1, ?_⟩
        show Kd.S t.kd e' w' 0 ((ghCall g gc d (sigIds sg)).S q) ((ghCall g gc d (sigIds sg)).ρ q) xs
        simp only [ghCall, hc, if_true, h2]
        exact hrr.2
      · have := hSnew hc k hk
        exact ⟨.inl (Nat.le_trans h.grow this.1), this.2⟩
    · have := List.mem_singleton.1 hm
      injection this with e _
      exact (kT_kR _ _ e.symm).elim
  · intro q hq
    rw [hR] at hq
    obtain ⟨j, hj, e, h2⟩ := byCall_spec hq
    simp only [ghCall, hq, if_true, h2]
    exact (hid j hj).1
  · intro b b' hb hb' e
    exact h.dBB b b' ((alive_app_out (hB b)).1 hb) ((alive_app_out (hB b')).1 hb') e
  · intro b q hb hq hk
    have hb' := (alive_app_out (hB b)).1 hb
    cases hc : byCall d (sigIds sg) q with
    | true =>
      have h1 := hSnew hc _ hk
      have h2 := h.boxLt hb'
      have h3 : w.heap.size ≤ g.β b := h1.1
      omega
    | false =>
      rw [hSold hc] at hk
      exact h.dBR b q hb' (hold hq hc) hk
  · intro q q' hq hq' hne k hk hk'
    cases hc : byCall d (sigIds sg) q with
    | true =>
      cases hc' : byCall d (sigIds sg) q' with
      | true =>
        obtain ⟨j, hj, e, e1⟩ := byCall_spec hc
        obtain ⟨j', hj', e', e1'⟩ := byCall_spec hc'
        have hk1 : gc.S j k := by simpa [ghCall, hc, e1] using hk
        have hk2 : gc.S j' k := by simpa [ghCall, hc', e1'] using hk'
        refine hdis j hj j' hj' (fun e2 => hne ?_) k hk1 hk2
        rw [e, e', e2]
      | false =>
        have h1 := hSnew hc k hk
        rw [hSold hc'] at hk'
        have := (h.newR q' (hold hq' hc') k hk').2
        omega
    | false =>
      rw [hSold hc] at hk
      cases hc' : byCall d (sigIds sg) q' with
      | true =>
        have h1 := hSnew hc' k hk'
        have := (h.newR q (hold hq hc) k hk).2
        omega
      | false =>
        rw [hSold hc'] at hk'
        exact h.dRR q q' (hold hq hc) (hold hq' hc') hne k hk hk'

theorem op_go (h : Rel F g st a w) {c : Call} {f : Operand} (ho : o.op = .call c) (hc : c.callee = .value f) (hn : ∀ d, o.dst = some d → F.slot d) {fn : Nat} {as : List AV} {post : Ret → Wr}
    (hr : (goEff0 T G o f c.args.toList c.argTypes.toList).run st = some (.call fn as post, l)) {r : Ret} (hS : ∀ sg, G fn = some sg → Said P sg fn as r) : OpOk P F o st (post r) a w := by
  unfold goEff0 at hr
  split at hr
  · rename_i d hd
    obtain ⟨v, l1, l2, h1, h2, _⟩ := run_bind hr
    split at h2
    · rename_i gn caps
      split at h2
      · rename_i sg hsg
        obtain ⟨⟨as1, b⟩, l3, l4, h3, h4, _⟩ := run_bind h2
        obtain ⟨cs, l5, l6, h5, h6, _⟩ := run_bind h4
        obtain ⟨hck, h7⟩ := run_chk h6
        obtain ⟨hfr, L, h8⟩ := freshP_run h7
        have := run_ret h8
        injection this with e1 e2 e3
        subst e1
        subst e2
        subst e3
        simp only [Bool.and_eq_true, Bool.or_eq_true, Bool.not_eq_true', Bool.or_eq_false_iff] at hck
        obtain ⟨hlo, hnd, h8⟩ := hck
        have hlt8 : ∀ j ∈ sigIds sg, j < 8 := fun j hj => by
          have := List.all_eq_true.1 h8 j hj
          exact Nat.le_of_ble_eq_true this
        have hf := ev_TV h h1
        simp only [TVR] at hf
        obtain ⟨vs, ef, hcaps⟩ := hf
        obtain ⟨⟨fn, hfn, hname, hbody⟩, hcalls⟩ := hS sg hsg
        have hrun : (execOp a.eval o).run P w = .ok (.enter gn (c.args.toList.map a.eval ++ vs).toArray) w := by
          have e1 : (c.args.map a.eval ++ vs.toArray) = (c.args.toList.map a.eval ++ vs).toArray := by
            apply Array.ext'; simp
          have hname' : ¬ fn.name = "runtime.NumGoroutine" := fun e => by rw [e] at hname; simp at hname
          have hbody' : ¬ fn.body = none := fun e => by rw [e] at hbody; cases hbody
          simp [execOp, ho, resolve, hc, ef, Deferred.ofValue, invoke, callFunc, hfn, hname', hbody', ← e1]
        intro ops Kc Q hw hK
        have go : ∀ ok : Nat → Prop, (∀ k, F.ok g st k → k < w.heap.size → ok k) → ((b = false ∧ caps.any isBox = false) ∨ ∀ k, k < w.heap.size → (F.ok0 k ∨ F.w0.heap.size ≤ k) ∨ F.lent k → ok k) → (resOk sg = true ∨ ∀ k, ok k → k < w.heap.size → F.ok g st k) → Oper.wp P o a w Kc Q := by
          intro ok ho1 ho2 ho3
          unfold Oper.wp
          rw [hrun, Oper.upon_enter]
          have hav := AVRs_app (argsP_AVR h ho1 h3 (ho2.imp (·.1) id)) (capsP_AVR h ho1 h5 hcaps (ho2.imp (·.2) id))
          refine Calls.mono (hcalls w ok _ hav) ?_
          intro e w' he
          cases e with
          | returned v =>
            obtain ⟨g', hg'⟩ := h.called (hn d hd) hlt8 hfr ho3 he
            show Kc (a.put o.dst v) w'
            rw [hd]
            exact hK g' _ _ hg'
          | panicked ch => exact he.elim
          | outgrown => exact he.elim
        rcases hlo with hlo | hlo
        · exact go (F.ok g st) (fun _ h _ => h) (.inl hlo) (.inr fun _ h _ => h)
        · exact go (fun _ => True) (fun _ _ _ => trivial) (.inr fun _ _ _ => trivial) (.inl hlo)
      · exact (run_fail h2).elim
    · exact (run_fail h2).elim
  · exact (run_fail hr).elim
end
end Go.Proofs.Ythgbcbnmdioknaa.Ref

namespace Go.Proofs.Ythgbcbnmdioknaa.Ref
open Go.RowKit Go.Proofs.YthgbcbnmdioknaaW.PrintWords Go.Proofs.YthgbcbnmdioknaaW.PrintLast

def LentS (g : Gh) (ids : List Nat) (k : Nat) : Prop := ∃ j ∈ ids, g.S j k
def LentOk (g : Gh) (w : World) (ids : List Nat) : Prop := (∀ j ∈ ids, (g.ρ j).oneCell' = true ∧ ∀ k, g.S j k → k < w.heap.size) ∧ ∀ i ∈ ids, ∀ j ∈ ids, i ≠ j → ∀ k, g.S i k → ¬ g.S j k
/-- What stands in the rows behind the call; nothing is said where the result's type is another one: the rows are given up. -/
def KeptM (g : Gh) (w : World) (t : Ty) (m : Mk) (t' : Ty) (y : t'.den) (w' : World) : Prop :=
  ∀ e : t' = t, ∃ gc : Gh, OwnR gc w' t (e ▸ y) m ∧ (∀ j ∈ idsT t m, gc.ρ j = g.ρ j ∧ ∀ k, gc.S j k → (LentS g (idsT t m) k ∨ w.heap.size ≤ k) ∧ k < w'.heap.size) ∧
    ∀ i ∈ idsT t m, ∀ j ∈ idsT t m, i ≠ j → ∀ k, gc.S i k → ¬ gc.S j k
def PostM (g : Gh) (w : World) (t : Ty) (m : Mk) (r : Ret) (v' : Value) (w' : World) : Prop :=
  ∃ (n : Int) (t' : Ty) (y : t'.den), r = [⟨.int .i64, n⟩, ⟨t', y⟩] ∧ v' = .int .i64 n ∧ w'.os = w.os ∧ w'.tape = w.tape ∧ w'.output = w.output ∧ w.heap.size ≤ w'.heap.size ∧
    (∀ k, k < w.heap.size → ¬ LentS g (idsT t m) k → w'.heap[k]? = w.heap[k]?) ∧ KeptM g w t m t' y w'
def SaidM (P : Program) (f : Nat) (t : Ty) (u : t.den) (m : Mk) (k : Int) (r : Ret) : Prop :=
  ∀ (w : World) (g : Gh) (cs : List Value), VR g (fun _ => true) w (fun _ => False) t u m cs → OwnR g w t u m → LentOk g w (idsT t m) →
    Calls P f #[valOf t cs, .int .i64 k] w fun e w' => match e with
      | .returned v' => PostM g w t m r v' w'
      | _ => False
/-- A function that is handed a pointer to a variable: what the variable holds behind the call comes first. -/
def PostB (sg : Sig) (w : World) (ok : Nat → Prop) (blk : Nat) (t : Ty) (r : Ret) (v : Value) (w' : World) : Prop :=
  ∃ (y : t.den) (rs : Ret) (gc : Gh) (vs : List Value) (cs : List Value) (ty : TypeId), r = ⟨t, y⟩ :: rs ∧ w'.os = w.os ∧ w'.tape = w.tape ∧ w'.output = w.output ∧ w.heap.size ≤ w'.heap.size ∧
    (∀ k, k < w.heap.size → k ≠ blk → w'.heap[k]? = w.heap[k]?) ∧ w'.heap[blk]? = some (.cells cs.toArray ty (0, 0)) ∧ Kd.FK t.kd w' (okP gc (sigIds sg) w ok) y cs ∧
    v = tupled vs ∧ ResR gc w' (okP gc (sigIds sg) w ok) sg rs vs ∧ (∀ j ∈ sigIds sg, (gc.ρ j).oneCell' = true ∧ ∀ k, gc.S j k → w.heap.size ≤ k ∧ k < w'.heap.size) ∧
    (∀ i ∈ sigIds sg, ∀ j ∈ sigIds sg, i ≠ j → ∀ k, gc.S i k → ¬ gc.S j k)
def SaidB (P : Program) (sg : Sig) (f : Nat) (t : Ty) (u : t.den) (as : List AV) (r : Ret) : Prop :=
  ∀ (w : World) (ok : Nat → Prop) (vs : List Value) (blk : Nat) (cs : List Value) (ty : TypeId), w.heap[blk]? = some (.cells cs.toArray ty (0, 0)) → ¬ ok blk → Kd.FK t.kd w ok u cs → AVRs w ok as vs →
    Calls P f (Value.pointer (some ⟨blk, 0, none⟩) :: vs).toArray w fun e w' => match e with
      | .returned v => PostB sg w ok blk t r v w'
      | _ => False
/-- A function that hands back a pointer to a new variable. -/
def PostN (w : World) (ok : Nat → Prop) (r : Ret) (v : Value) (w' : World) : Prop :=
  ∃ (t : Ty) (y : t.den) (blk : Nat) (cs : List Value) (ty : TypeId), r = [⟨t, y⟩] ∧ Below w.heap.size w w' ∧ v = .pointer (some ⟨blk, 0, none⟩) ∧ w.heap.size ≤ blk ∧ w'.heap[blk]? = some (.cells cs.toArray ty (0, 0)) ∧
    Kd.FK t.kd w' (fun k => (ok k ∨ w.heap.size ≤ k) ∧ k ≠ blk) y cs
def SaidN (P : Program) (f : Nat) (as : List AV) (r : Ret) : Prop :=
  ∀ (w : World) (ok : Nat → Prop) (vs : List Value), AVRs w ok as vs → Calls P f vs.toArray w fun e w' => match e with
    | .returned v => PostN w ok r v w'
    | _ => False
def Told (P : Program) (sg : Sig) (f : Nat) (as : List AV) (q : Ret) : Prop :=
  Said P sg f as q ∧ (∀ (t : Ty) (u : t.den) (m : Mk) (k : Int), isMark m = false → as = [.lend t u m, .val (.int .i64) k] → SaidM P f t u m k q) ∧
    (∀ (t : Ty) (u : t.den) (l : List AV), as = .lend t u .no :: l → SaidB P sg f t u l q) ∧ ∀ (t : Ty) (u : t.den) (l : List AV), as = .lend t u .nil :: l → SaidN P f l q

section
variable {P : Program} {T : Tab} {G : Sigs} {F : Fx} {g : Gh} {st : St} {a : Act} {w w' : World} {o : Oper} {d : Nat} {l : List Nat} {wr : Wr} {D : Nat → Bool} {ok ok' : Nat → Prop}
def zipM (R : Nat → Nat → Prop) : Ty → Mk → Mk → Prop
  | .slice _ _, .own r, .own j => R j r
  | .slice _ _, _, _ => False
  | .pair a b, m, .pair p q => zipM R a m.fst p ∧ zipM R b m.snd q
  | .pair _ _, _, _ => False
  | _, _, _ => True
theorem zipM.imp {R R' : Nat → Nat → Prop} (h : ∀ j r, R j r → R' j r) : ∀ {t : Ty} {m m' : Mk}, zipM R t m m' → zipM R' t m m'
  | .slice _ _, .own r, .own j, hz => h _ _ hz
  | .slice _ _, .own r, .no, hz => hz.elim
  | .slice _ _, .own r, .nil, hz => hz.elim
  | .slice _ _, .own r, .pair _ _, hz => hz.elim
  | .slice _ _, .no, _, hz => hz.elim
  | .slice _ _, .nil, _, hz => hz.elim
  | .slice _ _, .pair _ _, _, hz => hz.elim
  | .pair a b, m, .pair p q, hz => ⟨zipM.imp h hz.1, zipM.imp h hz.2⟩
  | .pair _ _, _, .no, hz => hz.elim
  | .pair _ _, _, .nil, hz => hz.elim
  | .pair _ _, _, .own _, hz => hz.elim
  | .int _, _, _, _ => trivial
  | .bool, _, _, _ => trivial
  | .str, _, _, _ => trivial
theorem canonT_zip : ∀ {t : Ty} {m m' : Mk} {n n' : Nat}, canonT t m n = some (m', n') →
    n' = n + (idsT t m).length ∧ idsT t m' = List.range' n (idsT t m).length ∧ ∀ (pre post : List Nat), pre.length = n → zipM (fun j r => (pre ++ idsT t m ++ post)[j]? = some r) t m m'
  | .slice _ _, .own r, m', n, n', h => by
    injection h with h
    injection h with h1 h2
    subst h1
    subst h2
    refine ⟨rfl, rfl, fun pre post hp => ?_⟩
    subst hp
    show (pre ++ [r] ++ post)[pre.length]? = some r
    simp
  | .slice _ _, .no, m', n, n', h => by cases h
  | .slice _ _, .nil, m', n, n', h => by cases h
  | .slice _ _, .pair _ _, m', n, n', h => by cases h
  | .pair a b, m, m', n, n', h => by
    unfold canonT at h
    split at h
    · rename_i m1 n1 h1
      split at h
      · rename_i m2 n2 h2
        injection h with h
        injection h with e1 e2
        subst e1
        subst e2
        obtain ⟨a1, a2, a3⟩ := canonT_zip h1
        obtain ⟨b1, b2, b3⟩ := canonT_zip h2
        refine ⟨?_, ?_, fun pre post hp => ⟨?_, ?_⟩⟩
        · show n2 = n + (idsT a m.fst ++ idsT b m.snd).length
          rw [List.length_append]; omega
        · show idsT a m1 ++ idsT b m2 = List.range' n (idsT a m.fst ++ idsT b m.snd).length
          rw [a2, b2, List.length_append, a1]
          simp
        · have := a3 pre (idsT b m.snd ++ post) hp
          refine this.imp (fun j r hj => ?_)
          show (pre ++ (idsT a m.fst ++ idsT b m.snd) ++ post)[j]? = some r
          rw [← hj]; simp [List.append_assoc]
        · have := b3 (pre ++ idsT a m.fst) post (by rw [List.length_append, hp, a1])
          refine this.imp (fun j r hj => ?_)
          show (pre ++ (idsT a m.fst ++ idsT b m.snd) ++ post)[j]? = some r
          rw [← hj]; simp [List.append_assoc]
      · cases h
    · cases h
  | .int _, m, m', n, n', h => by
    injection h with h
    injection h with h1 h2
    subst h1
    subst h2
    exact ⟨rfl, rfl, fun _ _ _ => trivial⟩
  | .bool, m, m', n, n', h => by
    injection h with h
    injection h with h1 h2
    subst h1
    subst h2
    exact ⟨rfl, rfl, fun _ _ _ => trivial⟩
  | .str, m, m', n, n', h => by
    injection h with h
    injection h with h1 h2
    subst h1
    subst h2
    exact ⟨rfl, rfl, fun _ _ _ => trivial⟩
theorem zip_VR {R : Nat → Nat → Prop} {gm : Gh} {ok1 : Nat → Prop} (hρ : ∀ j r, R j r → gm.ρ j = g.ρ r) : ∀ {t : Ty} {z : t.den} {m : Mk} {u : t.den} {l : List Nat} {cs : List Value} {m' : Mk},
    (full t z m).run st = some (u, l) → VR g D w ok t z m cs → zipM R t m m' → VR gm (fun _ => true) w ok1 t u m' cs
  | .slice e t, z, .own r, u, l, cs, .own j, hf, hv, hz => by
    simp only [VR] at hv ⊢
    exact ⟨by rw [hρ _ _ hz]; exact hv.1, trivial⟩
  | .slice _ _, z, .own r, u, l, cs, .no, hf, hv, hz => hz.elim
  | .slice _ _, z, .own r, u, l, cs, .nil, hf, hv, hz => hz.elim
  | .slice _ _, z, .own r, u, l, cs, .pair _ _, hf, hv, hz => hz.elim
  | .slice _ _, z, .no, u, l, cs, _, hf, hv, hz => hz.elim
  | .slice _ _, z, .nil, u, l, cs, _, hf, hv, hz => hz.elim
  | .slice _ _, z, .pair _ _, u, l, cs, _, hf, hv, hz => hz.elim
  | .pair a b, z, m, u, l, cs, .pair p q, hf, hv, hz => by
    obtain ⟨⟨l1, h1⟩, ⟨l2, h2⟩⟩ := full_pair hf
    have hv' := VR_pair hv
    simp only [VR]
    exact ⟨_, _, (List.take_append_drop a.sz cs).symm, zip_VR hρ h1 hv'.1 hz.1, zip_VR hρ h2 hv'.2 hz.2⟩
  | .pair _ _, z, _, u, l, cs, .no, hf, hv, hz => hz.elim
  | .pair _ _, z, _, u, l, cs, .nil, hf, hv, hz => hz.elim
  | .pair _ _, z, _, u, l, cs, .own _, hf, hv, hz => hz.elim
  | .int _, z, _, u, l, cs, _, hf, hv, hz => by simp only [full] at hf; obtain rfl := run_ret hf; simp only [VR] at hv ⊢; exact FK_flat rfl hv
  | .bool, z, _, u, l, cs, _, hf, hv, hz => by simp only [full] at hf; obtain rfl := run_ret hf; simp only [VR] at hv ⊢; exact FK_flat rfl hv
  | .str, z, _, u, l, cs, _, hf, hv, hz => by simp only [full] at hf; obtain rfl := run_ret hf; simp only [VR] at hv ⊢; exact FK_flat rfl hv
theorem zip_own {R : Nat → Nat → Prop} {gm : Gh} (h : Rel F g st a w) (hR : ∀ j r, R j r → gm.σ j = g.σ r ∧ gm.S j = g.S r ∧ gm.ρ j = g.ρ r) : ∀ {t : Ty} {z : t.den} {m : Mk} {u : t.den} {l : List Nat} {m' : Mk},
    (full t z m).run st = some (u, l) → zipM R t m m' → OwnR gm w t u m'
  | .slice e t, z, .own r, u, l, .own j, hf, hz => by
    simp only [full] at hf
    obtain ⟨v, l', h1, h2, _⟩ := run_rd hf
    split at h2
    · rename_i e' t' xs
      split at h2
      · rename_i y hy
        obtain rfl := run_ret h2
        obtain ⟨e1, e2⟩ := cast_some hy
        injection e1 with e0 e1
        subst e1
        subst e0
        cases e2
        obtain ⟨q1, q2⟩ := h.rowS h1
        obtain ⟨r1, r2, r3⟩ := hR _ _ hz
        refine ⟨r1.trans q1, ?_⟩
        rw [r2, r3]
        exact q2
      · exact (run_fail h2).elim
    · exact (run_fail h2).elim
  | .slice _ _, z, .own r, u, l, .no, hf, hz => hz.elim
  | .slice _ _, z, .own r, u, l, .nil, hf, hz => hz.elim
  | .slice _ _, z, .own r, u, l, .pair _ _, hf, hz => hz.elim
  | .slice _ _, z, .no, u, l, _, hf, hz => hz.elim
  | .slice _ _, z, .nil, u, l, _, hf, hz => hz.elim
  | .slice _ _, z, .pair _ _, u, l, _, hf, hz => hz.elim
  | .pair a b, z, m, u, l, .pair p q, hf, hz => by
    obtain ⟨⟨l1, h1⟩, ⟨l2, h2⟩⟩ := full_pair hf
    exact ⟨zip_own h hR h1 hz.1, zip_own h hR h2 hz.2⟩
  | .pair _ _, z, _, u, l, .no, hf, hz => hz.elim
  | .pair _ _, z, _, u, l, .nil, hf, hz => hz.elim
  | .pair _ _, z, _, u, l, .own _, hf, hz => hz.elim
  | .int _, z, _, u, l, _, hf, hz => trivial
  | .bool, z, _, u, l, _, hf, hz => trivial
  | .str, z, _, u, l, _, hf, hz => trivial
theorem rowsOf_get {R : Nat → Nat → Prop} {gm gc : Gh} {w0 : World} : ∀ {t : Ty} {u y : t.den} {m m' : Mk}, zipM R t m m' → OwnR gm w0 t u m' → OwnR gc w' t y m' → ∀ p ∈ rowsOf t y m, ∃ j r, R j r ∧ r ∈ idsT t m ∧ j ∈ idsT t m' ∧ p.1 = kR r ∧ ∃ e t xs, p.2 = some (.row e t xs) ∧ RowR gc w' j e t xs ∧ gm.σ j = t
  | .slice e t, u, y, .own r, .own j, hz, h0, h1, p, hp => by
    have := List.mem_singleton.1 hp
    subst this
    exact ⟨j, r, hz, by simp [idsT], by simp [idsT], rfl, e, t, y, rfl, h1, h0.1⟩
  | .slice _ _, u, y, .own r, .no, hz, _, _, p, hp => hz.elim
  | .slice _ _, u, y, .own r, .nil, hz, _, _, p, hp => hz.elim
  | .slice _ _, u, y, .own r, .pair _ _, hz, _, _, p, hp => hz.elim
  | .slice _ _, u, y, .no, _, hz, _, _, p, hp => hz.elim
  | .slice _ _, u, y, .nil, _, hz, _, _, p, hp => hz.elim
  | .slice _ _, u, y, .pair _ _, _, hz, _, _, p, hp => hz.elim
  | .pair a b, u, y, m, .pair m1 m2, hz, h0, h1, p, hp => by
    rcases List.mem_append.1 hp with hp | hp
    · obtain ⟨j, r, a1, a2, a3, a4⟩ := rowsOf_get hz.1 h0.1 h1.1 p hp
      exact ⟨j, r, a1, List.mem_append.2 (.inl a2), List.mem_append.2 (.inl a3), a4⟩
    · obtain ⟨j, r, a1, a2, a3, a4⟩ := rowsOf_get hz.2 h0.2 h1.2 p hp
      exact ⟨j, r, a1, List.mem_append.2 (.inr a2), List.mem_append.2 (.inr a3), a4⟩
  | .pair _ _, u, y, _, .no, hz, _, _, p, hp => hz.elim
  | .pair _ _, u, y, _, .nil, hz, _, _, p, hp => hz.elim
  | .pair _ _, u, y, _, .own _, hz, _, _, p, hp => hz.elim
  | .int _, u, y, _, _, hz, _, _, p, hp => (List.not_mem_nil hp).elim
  | .bool, u, y, _, _, hz, _, _, p, hp => (List.not_mem_nil hp).elim
  | .str, u, y, _, _, hz, _, _, p, hp => (List.not_mem_nil hp).elim
theorem rowsOf_dom : ∀ {t : Ty} {y : t.den} {m : Mk}, ∀ r ∈ idsT t m, ∃ v, (kR r, v) ∈ rowsOf t y m
  | .slice e t, y, .own r, q, hq => by
    have := List.mem_singleton.1 hq
    subst this
    exact ⟨_, List.mem_singleton.2 rfl⟩
  | .slice _ _, y, .no, q, hq => (List.not_mem_nil hq).elim
  | .slice _ _, y, .nil, q, hq => (List.not_mem_nil hq).elim
  | .slice _ _, y, .pair _ _, q, hq => (List.not_mem_nil hq).elim
  | .pair a b, y, m, q, hq => by
    rcases List.mem_append.1 hq with hq | hq
    · obtain ⟨v, hv⟩ := rowsOf_dom (y := y.1) q hq
      exact ⟨v, List.mem_append.2 (.inl hv)⟩
    · obtain ⟨v, hv⟩ := rowsOf_dom (y := y.2) q hq
      exact ⟨v, List.mem_append.2 (.inr hv)⟩
  | .int _, y, _, q, hq => (List.not_mem_nil hq).elim
  | .bool, y, _, q, hq => (List.not_mem_nil hq).elim
  | .str, y, _, q, hq => (List.not_mem_nil hq).elim
theorem idx_of : ∀ {L : List Nat} {j r : Nat}, nodup L = true → L[j]? = some r → L.idxOf r = j
  | [], j, r, _, h => by simp at h
  | b :: L, 0, r, _, h => by
    have h : some b = some r := by simpa using h
    injection h with h
    subst h
    simp
  | b :: L, j + 1, r, hn, h => by
    simp only [nodup, Bool.and_eq_true, Bool.not_eq_true'] at hn
    have h' : L[j]? = some r := by simpa using h
    have hm : r ∈ L := List.mem_of_getElem? h'
    have hne : b ≠ r := fun e => by
      rw [e] at hn
      have : L.contains r = true := by simpa using hm
      rw [this] at hn
      exact Bool.noConfusion hn.1
    rw [List.idxOf_cons]
    have e : (b == r) = false := by simpa using hne
    rw [e, idx_of hn.2 h']
    rfl

theorem Rel.marked (h : Rel F g st a w) (hd : F.slot d) {n : Int} {L : List Nat} {rows : Wr} {S' : Nat → Nat → Prop}
    (hrT : ∀ i, dom rows (kT i) = false) (hrB : ∀ b, dom rows (kB b) = false) (hrR : ∀ q, dom rows (kR q) = true ↔ q ∈ L) (hal : ∀ q ∈ L, Alive st (kR q))
    (hos : w'.os = w.os) (htp : w'.tape = w.tape) (hout : w'.output = w.output) (hgrow : w.heap.size ≤ w'.heap.size)
    (hfr : ∀ k, k < w.heap.size → ¬ (∃ q ∈ L, g.S q k) → w'.heap[k]? = w.heap[k]?)
    (hrow : ∀ q v, get rows (kR q) = some v → ∃ e t xs, v = .row e t xs ∧ g.σ q = t ∧ Kd.S t.kd e w' 0 (S' q) (g.ρ q) xs)
    (hS : ∀ q v, get rows (kR q) = some v → ∀ k, S' q k → ((∃ q ∈ L, g.S q k) ∨ w.heap.size ≤ k) ∧ k < w'.heap.size)
    (hap : ∀ q q' v v', get rows (kR q) = some v → get rows (kR q') = some v' → q ≠ q' → ∀ k, S' q k → ¬ S' q' k) :
    ∃ g', Rel F g' ((rows ++ [(kT d, some (.tv (.v (.int .i64) n .no)))]) ++ st) (a.put (some d) (.int .i64 n)) w' := by
  classical
  have hwT : ∀ i, dom (rows ++ [(kT d, some (.tv (.v (.int .i64) n .no)))]) (kT i) = true ↔ i = d := by
    intro i
    rw [dom_app, hrT, Bool.false_or]
    by_cases e : i = d
    · subst e; simp [dom_cons_same]
    · rw [dom_one_ne _ (fun e' => e (kT_inj e').symm)]; simp [e]
  have hwB : ∀ b, dom (rows ++ [(kT d, some (.tv (.v (.int .i64) n .no)))]) (kB b) = false := by
    intro b
    rw [dom_app, hrB, Bool.false_or, dom_one_ne _ (kT_kB d b)]
  have hwR : ∀ q, dom (rows ++ [(kT d, some (.tv (.v (.int .i64) n .no)))]) (kR q) = dom rows (kR q) := by
    intro q
    rw [dom_app, dom_one_ne _ (kT_kR d q), Bool.or_false]
  have hgR : ∀ q v, get (rows ++ [(kT d, some (.tv (.v (.int .i64) n .no)))]) (kR q) = some v → get rows (kR q) = some v ∧ q ∈ L := by
    intro q v hv
    have hdq : dom rows (kR q) = true := by rw [← hwR]; exact dom_of_get hv
    rw [get_app_in hdq] at hv
    exact ⟨hv, (hrR q).1 hdq⟩
  have hin : ∀ {q}, q ∈ L → Alive ((rows ++ [(kT d, some (.tv (.v (.int .i64) n .no)))]) ++ st) (kR q) → ∃ v, get rows (kR q) = some v := by
    intro q hq ha
    rw [alive_app_in (by rw [hwR]; exact (hrR q).2 hq)] at ha
    obtain ⟨v, hv⟩ := ha
    exact ⟨v, (hgR q v hv).1⟩
  have hout' : ∀ {q}, q ∉ L → Alive ((rows ++ [(kT d, some (.tv (.v (.int .i64) n .no)))]) ++ st) (kR q) → Alive st (kR q) := by
    intro q hq ha
    refine (alive_app_out ?_).1 ha
    rw [hwR]
    cases e : dom rows (kR q) with
    | false => rfl
    | true => exact (hq ((hrR q).1 e)).elim
  let g' : Gh := { g with S := fun r => if r ∈ L then S' r else g.S r }
  have hSi : ∀ {q}, q ∈ L → g'.S q = S' q := fun {q} hq => by show (if q ∈ L then S' q else g.S q) = S' q; rw [if_pos hq]
  have hSo : ∀ {q}, q ∉ L → g'.S q = g.S q := fun {q} hq => by show (if q ∈ L then S' q else g.S q) = g.S q; rw [if_neg hq]
  refine ⟨g', h.upd g' _ _ w' (fun k => ∃ q ∈ L, g.S q k) (by rw [put_size, h.size]) (fun i hi => ?_) (by rw [put_defers, h.defers]) hos htp hout hgrow hfr ?_ (fun _ _ => rfl) (fun _ _ => rfl) (fun _ _ => rfl) (fun _ _ => rfl) ?_ ?_ ?_ ?_ ?_ ?_ ?_ ?_ ?_ ?_ ?_ ?_⟩
  · cases e : dom (rows ++ [(kT d, some (.tv (.v (.int .i64) n .no)))]) (kT i) with
    | false => rfl
    | true =>
      have h1 := (hwT i).1 e
      have h2 := hd.1
      omega
  · rintro k ⟨q, hq, hk⟩
    exact .inr ⟨q, hal q hq, hk⟩
  · intro q _ hq
    refine hSo (fun hm => ?_)
    rw [hwR, (hrR q).2 hm] at hq
    cases hq
  · rintro k hk (⟨b, hb, e⟩ | ⟨q, hq, e⟩)
    · exact .inl ⟨b, (alive_app_out (hwB b)).1 hb, e⟩
    · by_cases hm : q ∈ L
      · obtain ⟨v, hv⟩ := hin hm hq
        rw [hSi hm] at e
        rcases (hS q v hv k e).1 with ⟨q', hq', h1⟩ | h1
        · exact .inr ⟨q', hal q' hq', h1⟩
        · omega
      · rw [hSo hm] at e
        exact .inr ⟨q, hout' hm hq, e⟩
  · rintro b hb _ ⟨q, hq, hk⟩
    exact h.dBR b q hb (hal q hq) hk
  · rintro q hq hdq k hk ⟨q', hq', hk'⟩
    refine h.dRR q q' hq (hal q' hq') (fun e => ?_) k hk hk'
    subst e
    rw [hwR, (hrR q).2 hq'] at hdq
    cases hdq
  · intro i hi
    refine put_ne (fun e => ?_)
    rw [(hwT i).2 e] at hi
    cases hi
  · intro _ i v hv
    have e := (hwT i).1 (dom_of_get hv)
    subst e
    rw [get_app_out (hrT i), get_cons_same] at hv
    injection hv with hv
    subst hv
    refine ⟨_, rfl, ?_⟩
    rw [put_same (by rw [h.size]; exact hd.2)]
    simp only [TVR]
    exact ⟨[.int .i64 n], rfl, VR_no.2 (fun _ _ => rfl)⟩
  · intro _ b v hv
    have := dom_of_get hv
    rw [hwB b] at this
    cases this
  · intro q v hv
    obtain ⟨hv, hm⟩ := hgR q v hv
    obtain ⟨e, t, xs, e1, e2, e3⟩ := hrow q v hv
    refine ⟨e, t, xs, e1, ⟨e2, ?_⟩, fun k hk => ?_⟩
    · rw [hSi hm]; exact e3
    · rw [hSi hm] at hk
      have := hS q v hv k hk
      refine ⟨?_, this.2⟩
      rcases this.1 with ⟨q', hq', h1⟩ | h1
      · exact (h.newR q' (hal q' hq') k h1).1
      · exact .inl (Nat.le_trans h.grow h1)
  · intro q hq
    rw [hwR] at hq
    exact h.isl q (dom_of_alive (hal q ((hrR q).1 hq)))
  · intro b b' hb hb' e
    exact h.dBB b b' ((alive_app_out (hwB b)).1 hb) ((alive_app_out (hwB b')).1 hb') e
  · intro b q hb hq hk
    have hb' := (alive_app_out (hwB b)).1 hb
    by_cases hm : q ∈ L
    · obtain ⟨v, hv⟩ := hin hm hq
      rw [hSi hm] at hk
      rcases (hS q v hv _ hk).1 with ⟨q', hq', h1⟩ | h1
      · exact h.dBR b q' hb' (hal q' hq') h1
      · have := h.boxLt hb'
        have h1 : w.heap.size ≤ g.β b := h1
        omega
    · rw [hSo hm] at hk
      exact h.dBR b q hb' (hout' hm hq) hk
  · have key : ∀ q q', Alive ((rows ++ [(kT d, some (.tv (.v (.int .i64) n .no)))]) ++ st) (kR q) → Alive ((rows ++ [(kT d, some (.tv (.v (.int .i64) n .no)))]) ++ st) (kR q') → q ∈ L → q' ∉ L → ∀ k, g'.S q k → ¬ g'.S q' k := by
      intro q q' hq hq' hm hm' k hk hk'
      obtain ⟨v, hv⟩ := hin hm hq
      rw [hSi hm] at hk
      rw [hSo hm'] at hk'
      have ha' := hout' hm' hq'
      rcases (hS q v hv _ hk).1 with ⟨q2, hq2, h1⟩ | h1
      · exact h.dRR q2 q' (hal q2 hq2) ha' (fun e => hm' (e ▸ hq2)) k h1 hk'
      · have := (h.newR q' ha' k hk').2
        omega
    intro q q' hq hq' hne k hk hk'
    by_cases hm : q ∈ L
    · by_cases hm' : q' ∈ L
      · obtain ⟨v, hv⟩ := hin hm hq
        obtain ⟨v', hv'⟩ := hin hm' hq'
        rw [hSi hm] at hk
        rw [hSi hm'] at hk'
        exact hap q q' v v' hv hv' hne k hk hk'
      · exact key q q' hq hq' hm hm' k hk hk'
    · by_cases hm' : q' ∈ L
      · exact key q' q hq' hq hm' hm k hk' hk
      · rw [hSo hm] at hk
        rw [hSo hm'] at hk'
        exact h.dRR q q' (hout' hm hq) (hout' hm' hq') hne k hk hk'

theorem op_goM (h : Rel F g st a w) {c : Call} {gn : Nat} (ho : o.op = .call c) (hc : c.callee = .value (.func gn)) (hn : ∀ d, o.dst = some d → F.slot d) {fn : Nat} {as : List AV} {post : Ret → Wr}
    (hr : (goEffM T G o gn c.args.toList c.argTypes.toList).run st = some (.call fn as post, l)) {r : Ret} (hS : ∀ sg, G fn = some sg → Told P sg fn as r) : OpOk P F o st (post r) a w := by
  classical
  unfold goEffM at hr
  split at hr
  · rename_i d x k hd hxs
    split at hr
    · rename_i sg hsg
      obtain ⟨v, l1, l2, h1, h2, _⟩ := run_bind hr
      split at h2
      · rename_i t z m
        obtain ⟨n, l3, l4, h3, h4, _⟩ := run_bind h2
        obtain ⟨u, l5, l6, h5, h6, _⟩ := run_bind h4
        split at h6
        · rename_i m0 n0 hcan
          obtain ⟨hnd, h7⟩ := run_chk h6
          simp only [Bool.and_eq_true, Bool.not_eq_true'] at hnd
          obtain ⟨hnd, hmk⟩ := hnd
          have := run_ret h7
          injection this with e1 e2 e3
          subst e1
          subst e2
          subst e3
          obtain ⟨⟨⟨fn, hfn, hname, hbody⟩, _⟩, hM, _⟩ := hS sg hsg
          have hM := hM t u m0 n hmk rfl
          obtain ⟨_, hids, hzip⟩ := canonT_zip hcan
          have hzip := hzip [] [] rfl
          have hzip : zipM (fun j r => (idsT t m)[j]? = some r) t m m0 := hzip.imp (fun j r hj => by simpa using hj)
          have hx := evt_TV h h1
          simp only [TVR] at hx
          obtain ⟨cs, hx, hv⟩ := hx
          have hk := num64_TV h h3
          let gm : Gh := { g with ρ := fun j => g.ρ ((idsT t m).getD j 0), σ := fun j => g.σ ((idsT t m).getD j 0), S := fun j => g.S ((idsT t m).getD j 0) }
          have hgm : ∀ j r, (idsT t m)[j]? = some r → gm.σ j = g.σ r ∧ gm.S j = g.S r ∧ gm.ρ j = g.ρ r := by
            intro j r hj
            have e : (idsT t m).getD j 0 = r := by rw [List.getD_eq_getElem?_getD, hj]; rfl
            exact ⟨by show g.σ _ = _; rw [e], by show g.S _ = _; rw [e], by show g.ρ _ = _; rw [e]⟩
          have hj2 : ∀ j ∈ idsT t m0, ∃ r, (idsT t m)[j]? = some r ∧ r ∈ idsT t m := by
            intro j hj
            rw [hids] at hj
            have hj : j < (idsT t m).length := by simpa using hj
            exact ⟨_, List.getElem?_eq_getElem hj, List.getElem_mem hj⟩
          have hr2 : ∀ r ∈ idsT t m, ∃ j ∈ idsT t m0, (idsT t m)[j]? = some r := by
            intro r hr
            obtain ⟨j, hj⟩ := List.getElem?_of_mem hr
            refine ⟨j, ?_, hj⟩
            rw [hids]
            have := (List.getElem?_eq_some_iff.1 hj).1
            simpa using this
          have hal := full_alive h5
          have hown := zip_own (gm := gm) h hgm h5 hzip
          have hLS : ∀ k, LentS gm (idsT t m0) k ↔ ∃ q ∈ idsT t m, g.S q k := by
            intro k
            constructor
            · rintro ⟨j, hj, hk⟩
              obtain ⟨r, hr, hm⟩ := hj2 j hj
              exact ⟨r, hm, by rw [← (hgm j r hr).2.1]; exact hk⟩
            · rintro ⟨r, hr, hk⟩
              obtain ⟨j, hj, he⟩ := hr2 r hr
              exact ⟨j, hj, by rw [(hgm j r he).2.1]; exact hk⟩
          have hlo : LentOk gm w (idsT t m0) := by
            refine ⟨fun j hj => ?_, fun i hi j hj hne k hk hk' => ?_⟩
            · obtain ⟨r, hr, hm⟩ := hj2 j hj
              obtain ⟨_, q2, q3⟩ := hgm j r hr
              rw [q2, q3]
              exact ⟨h.isl r (dom_of_alive (hal r hm)), fun k hk => (h.newR r (hal r hm) k hk).2⟩
            · obtain ⟨r, hr, hm⟩ := hj2 i hi
              obtain ⟨r', hr', hm'⟩ := hj2 j hj
              rw [(hgm i r hr).2.1] at hk
              rw [(hgm j r' hr').2.1] at hk'
              refine h.dRR r r' (hal r hm) (hal r' hm') (fun e => hne ?_) k hk hk'
              subst e
              rw [← idx_of hnd hr, ← idx_of hnd hr']
          have hargs : c.args.map a.eval = #[valOf t cs, .int .i64 n] := by
            apply Array.ext'
            simp [hxs, hx, hk]
          have hf : a.eval (.func gn) = .func (.func gn) #[] #[] := by
            have hf := ev_TV h (x := .func gn) (tv := .clo gn []) (l := []) rfl
            simp only [TVR, TVRs] at hf
            obtain ⟨vs, ef, hvs⟩ := hf
            rw [ef, hvs]
          have hrun : (execOp a.eval o).run P w = .ok (.enter gn #[valOf t cs, .int .i64 n]) w := by
            have hname' : ¬ fn.name = "runtime.NumGoroutine" := fun e => by rw [e] at hname; simp at hname
            have hbody' : ¬ fn.body = none := fun e => by rw [e] at hbody; cases hbody
            simp [execOp, ho, resolve, hc, hf, Deferred.ofValue, invoke, callFunc, hfn, hname', hbody', hargs]
          intro ops Kc Q hw hK
          unfold Oper.wp
          rw [hrun, Oper.upon_enter]
          refine Calls.mono (hM w gm cs (zip_VR (g := g) (fun j r hj => (hgm j r hj).2.2) h5 hv hzip) hown hlo) ?_
          intro e w' he
          cases e with
          | returned v' =>
            obtain ⟨n', t', y, hrr, hv', q1, q2, q3, q4, q5, q6⟩ := he
            show Kc (a.put o.dst v') w'
            rw [hd, hv']
            rw [hrr] at hK
            show Kc (a.put (some d) (.int .i64 n')) w'
            have hfr : ∀ k, k < w.heap.size → ¬ (∃ q ∈ idsT t m, g.S q k) → w'.heap[k]? = w.heap[k]? := fun k hk hn => q5 k hk (fun hl => hn ((hLS k).1 hl))
            have fin : ∃ g', Rel F g' (postM d t m [⟨.int .i64, n'⟩, ⟨t', y⟩] ++ st) (a.put (some d) (.int .i64 n')) w' := by
              show ∃ g', Rel F g' ((keptRows t m t' y ++ [(kT d, some (.tv (.v (.int .i64) n' .no)))]) ++ st) (a.put (some d) (.int .i64 n')) w'
              unfold keptRows
              split
              · rename_i y' hy
                obtain ⟨e1, e2⟩ := cast_some hy
                subst e1
                have e2 : y = y' := e2
                subst e2
                obtain ⟨gc, p1, p2, p3⟩ := q6 rfl
                have p1 : OwnR gc w' t' y m0 := p1
                have hg := rowsOf_get hzip hown p1
                have hkey : ∀ k, dom (rowsOf t' y m) k = true → ∃ r ∈ idsT t' m, k = kR r := by
                  intro k hk
                  obtain ⟨v, hv⟩ := dom_mem.1 hk
                  obtain ⟨j, r, _, hm, _, e, _⟩ := hg _ hv
                  exact ⟨r, hm, e⟩
                have hget : ∀ q v, get (rowsOf t' y m) (kR q) = some v → ∃ j, (idsT t' m)[j]? = some q ∧ j ∈ idsT t' m0 ∧ (idsT t' m).idxOf q = j ∧ ∃ e t xs, v = .row e t xs ∧ RowR gc w' j e t xs ∧ gm.σ j = t := by
                  intro q v hv
                  obtain ⟨j, r, a1, a2, a3, a4, e, t, xs, a5, a6, a7⟩ := hg _ (get_mem hv)
                  have : q = r := kR_inj a4
                  subst this
                  injection a5 with a5
                  exact ⟨j, a1, a3, idx_of hnd a1, e, t, xs, a5, a6, a7⟩
                refine h.marked (hn d hd) (S' := fun q => gc.S ((idsT t' m).idxOf q)) ?_ ?_ ?_ hal q1 q2 q3 q4 hfr ?_ ?_ ?_
                · intro i
                  cases e : dom (rowsOf t' y m) (kT i) with
                  | false => rfl
                  | true => obtain ⟨r, _, e⟩ := hkey _ e; exact (kT_kR _ _ e).elim
                · intro i
                  cases e : dom (rowsOf t' y m) (kB i) with
                  | false => rfl
                  | true => obtain ⟨r, _, e⟩ := hkey _ e; exact (kB_kR _ _ e).elim
                · intro q
                  constructor
                  · intro e
                    obtain ⟨r, hm, e⟩ := hkey _ e
                    rw [kR_inj e]; exact hm
                  · intro hm
                    obtain ⟨v, hv⟩ := rowsOf_dom (y := y) q hm
                    exact dom_mem.2 ⟨v, hv⟩
                · intro q v hv
                  obtain ⟨j, a1, a2, a3, e, t, xs, a4, a5, a6⟩ := hget q v hv
                  obtain ⟨b1, b2, b3⟩ := hgm j q a1
                  refine ⟨e, t, xs, a4, by rw [← b1]; exact a6, ?_⟩
                  show Kd.S t.kd e w' 0 (gc.S ((idsT t' m).idxOf q)) (g.ρ q) xs
                  rw [a3, ← b3, ← (p2 j a2).1]
                  exact a5.2
                · intro q v hv k hk
                  obtain ⟨j, a1, a2, a3, _⟩ := hget q v hv
                  have hk : gc.S ((idsT t' m).idxOf q) k := hk
                  rw [a3] at hk
                  have := (p2 j a2).2 k hk
                  exact ⟨this.1.imp (fun hl => (hLS k).1 hl) id, this.2⟩
                · intro q q' v v' hv hv' hne k hk hk'
                  obtain ⟨j, a1, a2, a3, _⟩ := hget q v hv
                  obtain ⟨j', b1, b2, b3, _⟩ := hget q' v' hv'
                  have hk : gc.S ((idsT t' m).idxOf q) k := hk
                  have hk' : gc.S ((idsT t' m).idxOf q') k := hk'
                  rw [a3] at hk
                  rw [b3] at hk'
                  refine p3 j a2 j' b2 (fun e => hne ?_) k hk hk'
                  subst e
                  rw [a1] at b1
                  injection b1
              · have hnone : ∀ q v, get (drops (idsT t m)) (kR q) = some v → False := by
                  intro q v hv
                  rw [drops_none] at hv
                  cases hv
                refine h.marked (hn d hd) (S' := fun _ _ => False) ?_ ?_ ?_ hal q1 q2 q3 q4 hfr ?_ ?_ ?_
                · intro i
                  cases e : dom (drops (idsT t m)) (kT i) with
                  | false => rfl
                  | true => obtain ⟨r, _, e⟩ := drops_only e; exact (kT_kR _ _ e).elim
                · intro i
                  cases e : dom (drops (idsT t m)) (kB i) with
                  | false => rfl
                  | true => obtain ⟨r, _, e⟩ := drops_only e; exact (kB_kR _ _ e).elim
                · intro q
                  constructor
                  · intro e
                    obtain ⟨r, hm, e⟩ := drops_only e
                    rw [kR_inj e]; exact hm
                  · exact fun hm => drops_dom hm
                · intro q v hv; exact (hnone q v hv).elim
                · intro q v hv; exact (hnone q v hv).elim
                · intro q q' v v' hv; exact (hnone q v hv).elim
            obtain ⟨g', hg'⟩ := fin
            exact hK g' _ _ hg'
          | panicked ch => exact he.elim
          | outgrown => exact he.elim
        · exact (run_fail h6).elim
      · exact (run_fail h2).elim
    · exact (run_fail hr).elim
  · exact (run_fail hr).elim
end
end Go.Proofs.Ythgbcbnmdioknaa.Ref

namespace Go.Proofs.Ythgbcbnmdioknaa.Ref
open Go.RowKit Go.Proofs.YthgbcbnmdioknaaW.PrintWords Go.Proofs.YthgbcbnmdioknaaW.PrintLast

section
variable {P : Program} {T : Tab} {G : Sigs} {F : Fx} {g : Gh} {st : St} {a : Act} {w w' : World} {o o1 o2 o3 : Oper} {d : Nat} {l : List Nat} {wr : Wr} {D : Nat → Bool} {ok ok' : Nat → Prop}
/-- A slot whose value is of no interest. -/
theorem Rel.kill (h : Rel F g st a w) {d : Nat} (hd : F.slot d) (v : Value) : Rel F g ((kT d, none) :: st) (a.put (some d) v) w := by
  have hB : ∀ b, dom [(kT d, (none : Option Val))] (kB b) = false := fun b => dom_one_ne _ (kT_kB d b)
  have hR : ∀ r, dom [(kT d, (none : Option Val))] (kR r) = false := fun r => dom_one_ne _ (kT_kR d r)
  refine h.upd g [(kT d, none)] _ w (fun _ => False) (by rw [put_size, h.size]) (fun i hi => dom_one_ne _ (fun e => by have h1 := kT_inj e; have h2 := hd.1; omega)) (by rw [put_defers, h.defers]) rfl rfl rfl (Nat.le_refl _) (fun k _ _ => rfl)
    (fun _ hk => hk.elim) (fun _ _ => rfl) (fun _ _ => rfl) (fun _ _ => rfl) (fun _ _ => rfl) (fun _ _ _ => rfl) (fun k _ hm => (mut_app_T hB hR k).1 hm) (fun _ _ _ hk => hk) (fun _ _ _ _ _ hk => hk) ?_ ?_ ?_ ?_ (fun r hr => by rw [hR r] at hr; cases hr) ?_ ?_ ?_
  · intro i hi
    refine put_ne (fun e => ?_)
    subst e
    rw [dom_cons_same] at hi; cases hi
  · intro hmv i v' hv
    by_cases e : i = d
    · subst e
      rw [get_cons_same] at hv
      cases hv
    · rw [get_cons_ne _ _ (fun e' => e (kT_inj e').symm)] at hv
      cases hv
  · intro _ b v' hv
    rw [get_cons_ne _ _ (kT_kB d b)] at hv
    cases hv
  · intro r v' hv
    rw [get_cons_ne _ _ (kT_kR d r)] at hv
    cases hv
  · intro b b' hb hb' e
    rw [alive_app_out (hB b)] at hb
    rw [alive_app_out (hB b')] at hb'
    exact h.dBB b b' hb hb' e
  · intro b r hb hr
    rw [alive_app_out (hB b)] at hb
    rw [alive_app_out (hR r)] at hr
    exact h.dBR b r hb hr
  · intro r r' hr hr' hne
    rw [alive_app_out (hR r)] at hr
    rw [alive_app_out (hR r')] at hr'
    exact h.dRR r r' hr hr' hne
theorem flat_S {t : Ty} {e : Nat} {v : Value} {xs : List t.den} (hf : t.flat = true) (h : t.kd.R e w 0 ok v xs) : Kd.S t.kd e w 0 ok v xs := by
  obtain ⟨h0, inner, ho, hr⟩ := h
  refine ⟨fun _ => 0, h0, inner, by rw [List.length_zipIdx]; exact ho, by rw [List.length_zipIdx]; exact hr.1, fun j p hj => ?_⟩
  obtain ⟨y, hy, rfl⟩ := zipIdx_at hj
  exact K_M_flat hf (t.kd.K_of_M (hr.2 j y hy))
theorem M_other {t : Ty} {x : t.den} {c : List Value} {base : Nat} (hf : t.flat = true) (h : t.kd.M w base ok x c) : t.kd.M w' base ok' x c :=
  M_flat (w := w') hf (FK_flat (ok := fun _ => True) (w' := w') (ok' := fun _ => True) hf (K_FK (t.kd.K_of_M h)))
/-- The one part of a value that leads anywhere. -/
theorem lone_M {base : Nat} : ∀ {p : List Bool} {t : Ty} {x : t.den} {m : Mk} {ts : Ty} {y : ts.den} {m' : Mk} {c : List Value}, lone t p = true → t.kd.M w base ok x c → getp t x m p = some ⟨ts, y, m'⟩ →
    ∃ c1 mid c2, c = c1 ++ mid ++ c2 ∧ c1.length = offp t p ∧ ts.kd.M w base ok y mid ∧
      ∀ {w' : World} {ok' : Nat → Prop} {z : ts.den} {n : Mk} {x' : t.den} {m'' : Mk} {mid' : List Value}, setp t x m p ts z n = some (x', m'') → ts.kd.M w' base ok' z mid' → t.kd.M w' base ok' x' (c1 ++ mid' ++ c2)
  | [], t, x, m, ts, y, m', c, hl, hM, hg => by
    have hg : some (⟨t, x, m⟩ : (t' : Ty) × t'.den × Mk) = some ⟨ts, y, m'⟩ := by cases t <;> exact hg
    injection hg with hg
    injection hg with e1 e2
    subst e1
    cases e2
    refine ⟨[], c, [], by simp, by cases t <;> rfl, hM, ?_⟩
    intro w' ok' z n x' m'' mid' hs hz
    have hs2 : ∃ zz, Ty.cast t z = some zz ∧ zz = x' := by
      cases t <;> (simp only [setp] at hs; split at hs <;> first | (cases hs; done) | (rename_i zz hz; injection hs with hs; injection hs with h1 h2; exact ⟨zz, hz, h1⟩))
    obtain ⟨zz, hz1, rfl⟩ := hs2
    obtain ⟨e7, e8⟩ := cast_some hz1
    cases e8
    rw [List.nil_append, List.append_nil]
    exact hz
  | false :: p, .pair a b, x, m, ts, y, m', c, hl, hM, hg => by
    have hl := (Bool.and_eq_true _ _).mp (show (lone a p && b.flat) = true from hl)
    obtain ⟨ca, cb, e, ha, hb⟩ := hM
    obtain ⟨c1, mid, c2, f1, f2, f3, f4⟩ := lone_M (p := p) hl.1 ha (show getp a x.1 m.fst p = _ from hg)
    refine ⟨c1, mid, c2 ++ cb, by rw [e, f1]; simp, f2, f3, ?_⟩
    intro w' ok' z n x' m'' mid' hs hz
    simp only [setp] at hs
    split at hs
    · rename_i y0 n0 h1
      injection hs with hs
      injection hs with e1 e2
      subst e1
      exact ⟨c1 ++ mid' ++ c2, cb, by simp, f4 h1 hz, M_other hl.2 hb⟩
    · cases hs
  | true :: p, .pair a b, x, m, ts, y, m', c, hl, hM, hg => by
    have hl := (Bool.and_eq_true _ _).mp (show (a.flat && lone b p) = true from hl)
    obtain ⟨ca, cb, e, ha, hb⟩ := hM
    obtain ⟨c1, mid, c2, f1, f2, f3, f4⟩ := lone_M (p := p) hl.2 hb (show getp b x.2 m.snd p = _ from hg)
    refine ⟨ca ++ c1, mid, c2, by rw [e, f1]; simp, ?_, f3, ?_⟩
    · rw [List.length_append, f2, a.kd.K_len (a.kd.K_of_M ha), kd_sz]
      rfl
    intro w' ok' z n x' m'' mid' hs hz
    simp only [setp] at hs
    split at hs
    · rename_i y0 n0 h1
      injection hs with hs
      injection hs with e1 e2
      subst e1
      exact ⟨ca, c1 ++ mid' ++ c2, by simp, M_other hl.1 ha, f4 h1 hz⟩
    · cases hs
  | false :: p, .int _, x, m, ts, y, m', c, hl, hM, hg => by cases hg
  | false :: p, .bool, x, m, ts, y, m', c, hl, hM, hg => by cases hg
  | false :: p, .str, x, m, ts, y, m', c, hl, hM, hg => by cases hg
  | false :: p, .slice _ _, x, m, ts, y, m', c, hl, hM, hg => by cases hg
  | true :: p, .int _, x, m, ts, y, m', c, hl, hM, hg => by cases hg
  | true :: p, .bool, x, m, ts, y, m', c, hl, hM, hg => by cases hg
  | true :: p, .str, x, m, ts, y, m', c, hl, hM, hg => by cases hg
  | true :: p, .slice _ _, x, m, ts, y, m', c, hl, hM, hg => by cases hg
theorem callOf_op {f : Operand} {c : Call} (h : callOf o = some (f, c)) : o.op = .call c ∧ c.callee = .value f := by
  unfold callOf at h
  split at h
  · rename_i c' hc
    split at h
    · rename_i f' hf
      injection h with h
      injection h with h1 h2
      subst h1
      subst h2
      exact ⟨hc, hf⟩
    · cases h
  · cases h
theorem fuse3_spec {u : Fuse} (h : fuse3 T o1 o2 o3 = some u) : ∃ c : Call, o1.op = .load u.L u.a ∧ o1.guard = none ∧ o1.dst = some u.d1 ∧ o2.op = .move u.x ∧ o2.guard = none ∧ o2.dst = some u.d2 ∧ o3.op = .call c ∧ c.callee = .value (.func u.f) ∧ o3.guard = none ∧ o3.dst = some u.d3 ∧ c.args.toList = [.tmp u.d1, .tmp u.d2] ∧ u.d1 ≠ u.d2 ∧ notTmp u.d1 u.x = true := by
  unfold fuse3 at h
  split at h
  · rename_i L a d1 x d2 h1 h2 h3 h4 h5 h6
    split at h
    · rename_i f c d3 h7 h8 h9
      split at h
      · rename_i b1 b2 h10
        cases hc : (hasN T.lends f && (Nat.beq b1 d1 && (Nat.beq b2 d2 && (!(Nat.beq d1 d2) && notTmp d1 x)))) with
        | false => rw [hc] at h; cases h
        | true =>
          rw [hc] at h
          have h : some (⟨d1, d2, d3, L, a, x, f⟩ : Fuse) = some u := h
          injection h with h
          subst h
          simp only [Bool.and_eq_true, Bool.not_eq_true'] at hc
          obtain ⟨_, e1, e2, e3, e4⟩ := hc
          obtain ⟨q1, q2⟩ := callOf_op h7
          have e1 := Nat.eq_of_beq_eq_true e1
          have e2 := Nat.eq_of_beq_eq_true e2
          subst e1
          subst e2
          refine ⟨c, h1, h2, h3, h4, h5, h6, q1, q2, h8, h9, h10, fun e => ?_, e4⟩
          have e : b1 = b2 := e
          subst e
          rw [Nat.beq_refl] at e3
          cases e3
      · cases h
    · cases h
  · cases h
theorem eval_put {d : Nat} {v : Value} {x : Operand} (h : notTmp d x = true) : (a.put (some d) v).eval x = a.eval x := by
  cases x with
  | tmp t =>
    refine put_ne (fun e => ?_)
    subst e
    simp only [notTmp, Nat.beq_refl] at h
    cases h
  | _ => rfl
/-- What is lent of a row's element. -/
theorem bor_spec (h : Rel F g st a w) {u : Fuse} {b : Bor} (hp : (borP T G u).run st = some (b, l)) :
    (∃ l', (ev u.a).run st = some (.elt b.r b.i b.p, l')) ∧ get st (kR b.r) = some (.row b.e0 b.t0 b.xs) ∧ lone b.t0 b.p = true ∧ (0 ≤ b.i ∧ b.i < (b.xs.length : Int)) ∧ (∃ m, getp b.t0 (b.xs.getD b.i.toNat b.t0.zero) .no b.p = some ⟨.slice b.e b.t, b.y, m⟩) ∧ T.ty u.L = some (.slice b.e b.t) ∧ (∃ sg, G u.f = some sg) ∧ b.t.flat = true ∧ a.eval u.x = .int .i64 b.k := by
  unfold borP at hp
  obtain ⟨v, l1, l2, h1, h2, _⟩ := run_bind hp
  split at h2
  · rename_i r i p
    obtain ⟨vv, l3, h3, h4, _⟩ := run_rd h2
    split at h4
    · rename_i e0 t0 xs
      obtain ⟨q1, h5⟩ := run_chk h4
      obtain ⟨q2, h6⟩ := run_chk h5
      split at h6
      · rename_i e t y m hg
        split at h6
        · rename_i tL sg hL hG
          obtain ⟨q3, h7⟩ := run_chk h6
          obtain ⟨k, l8, l9, h8, h9, _⟩ := run_bind h7
          have := run_ret h9
          subst this
          simp only [inRange, Bool.and_eq_true, decide_eq_true_eq] at q2 q3
          have e3 := Ty.eq_of_beq q3.1
          exact ⟨⟨_, h1⟩, h3, q1, q2, ⟨_, hg⟩, by rw [hL, e3], ⟨_, hG⟩, q3.2, num64_TV h h8⟩
        · exact (run_fail h6).elim
      · exact (run_fail h6).elim
    · exact (run_fail h4).elim
  · exact (run_fail h2).elim
theorem bor_do (hT : TabOk P T) (h : Rel F g st a w) {u : Fuse} (hu : fuse3 T o1 o2 o3 = some u) (hs1 : F.slot u.d1) (hs2 : F.slot u.d2) (hs3 : F.slot u.d3) {b : Bor} (hp : (borP T G u).run st = some (b, l)) {q r : Ret}
    (hS : ∀ sg, G u.f = some sg → Told P sg u.f [.lend (.slice b.e b.t) b.y (.own 0), .val (.int .i64) b.k] q) {K : Wr → Option Ret} (hk : borK u b K q = some r) {ops : Array Oper} {Q : Exit → Act → World → Prop} {rest : List Oper}
    (hK : ∀ wr a' w', K wr = some r → (∃ g', Rel F g' (wr ++ st) a' w') → wpList P ops Q rest a' w') : wpList P ops Q (o1 :: o2 :: o3 :: rest) a w := by
  obtain ⟨c, p1, p2, p3, p4, p5, p6, p7, p8, p9, p10, p11, p12, p13⟩ := fuse3_spec hu
  obtain ⟨⟨l', hev⟩, hrow, hlone, hir, ⟨m, hg⟩, hL, ⟨sg, hG⟩, hfl, hkx⟩ := bor_spec h hp
  obtain ⟨r0, e0, t0, xs, i, p, e, t, y, k⟩ := b
  dsimp only at hev hrow hlone hir hg hL hfl hkx hS
  obtain ⟨hσ, hRS⟩ := h.rowS hrow
  have hu' := ev_TV h hev
  simp only [TVR] at hu'
  obtain ⟨bb, nn, cc, e3, e4, hdr⟩ := hu'
  rw [hσ] at e4
  have hnx : nn = xs.length := by
    obtain ⟨A, c, e5, hl, hC⟩ := Kd.S_reads hRS
    rw [e3] at e5
    injection e5 with e6 e7 e8
  subst hnx
  rw [e3] at hRS
  obtain ⟨oki, cl, hcl, hM0, hcc, _, hoki, hH⟩ := Kd.S_elem hRS t0.zero i hir.1 hir.2
  obtain ⟨c1, mid, c2, f1, f2, f3, f4⟩ := lone_M hlone hM0 hg
  obtain ⟨v, hmid, hRv⟩ : ∃ v, mid = [v] ∧ t.kd.R e w 0 oki v y := f3
  subst hmid
  have hSv : Kd.S t.kd e w 0 (fun k => oki k ∧ k < w.heap.size) v y := Kd.S_mono (Kd.S_bound (flat_S hfl hRv)) (fun k hk => ⟨hk.1, hk.2.2.1⟩)
  have hv1 : v.oneCell' = true := by
    obtain ⟨A, c, e1⟩ := Kd.R_slice hRv
    rw [e1]; rfl
  have hload : (Instr.loadAt u.L (a.eval u.a)).run P w = .ok v w := by
    rw [e4]
    refine load_run hT hL (cs := [v]) rfl (fun j x hj => ?_)
    cases j with
    | zero =>
      have hj : v = x := by simpa using hj
      subst hj
      have := hcc (offp t0 p) v (by rw [f1, ← f2, List.append_assoc, List.getElem?_append_right (Nat.le_refl _)]; simp)
      rw [kd_sz] at this
      rw [Addr.add_mid, Nat.add_zero]
      exact this
    | succ j => simp at hj
  have hx2 : (a.put (some u.d1) v).eval u.x = .int .i64 k := (eval_put p13).trans hkx
  generalize ha1 : a.put (some u.d1) v = a1 at hx2
  generalize ha2 : a1.put (some u.d2) (.int .i64 k) = a2
  have hR2 : Rel F g ((kT u.d2, some (.tv (.v (.int .i64) k .no))) :: (kT u.d1, none) :: st) a2 w := by
    rw [← ha2, ← ha1]
    refine (h.kill hs1 v).put hs2 rfl rfl rfl rfl ?_
    simp only [TVR]
    exact ⟨[.int .i64 k], rfl, VR_no.2 (fun _ _ => rfl)⟩
  have hd1 : a2.eval (.tmp u.d1) = v := by
    show a2.tmps.getD u.d1 undef = v
    rw [← ha2, put_ne p12, ← ha1, put_same (by rw [h.size]; exact hs1.2)]
  have hd2 : a2.eval (.tmp u.d2) = .int .i64 k := by
    show a2.tmps.getD u.d2 undef = _
    rw [← ha2, put_same (by rw [← ha1, put_size, h.size]; exact hs2.2)]
  obtain ⟨⟨⟨fn, hfn, hname, hbody⟩, _⟩, hM, _⟩ := hS sg hG
  have hM := hM (.slice e t) y (.own 0) k rfl rfl
  have hargs : c.args.map a2.eval = #[v, .int .i64 k] := by
    apply Array.ext'
    simp [p11, hd1, hd2]
  have hf : a2.eval (.func u.f) = .func (.func u.f) #[] #[] := by
    have hf := ev_TV hR2 (x := .func u.f) (tv := .clo u.f []) (l := []) rfl
    simp only [TVR, TVRs] at hf
    obtain ⟨vs, ef, hvs⟩ := hf
    rw [ef, hvs]
  have hrun3 : (execOp a2.eval o3).run P w = .ok (.enter u.f #[v, .int .i64 k]) w := by
    have hname' : ¬ fn.name = "runtime.NumGoroutine" := fun e => by rw [e] at hname; simp at hname
    have hbody' : ¬ fn.body = none := fun e => by rw [e] at hbody; cases hbody
    simp [execOp, p7, resolve, p8, hf, Deferred.ofValue, invoke, callFunc, hfn, hname', hbody', hargs]
  refine wpList_step (fun Kc hKc => ?_)
  rw [if_pos (show Region.wanted o1 (yielded ops a.tmps) = true by unfold Region.wanted; rw [p2])]
  unfold Oper.wp
  rw [show (execOp a.eval o1).run P w = .ok (.value v) w by simp [execOp, p1, hload]]
  show Kc (a.put o1.dst v) w
  rw [p3, ha1]
  refine hKc _ _ ?_
  refine wpList_step (fun Kc hKc => ?_)
  rw [if_pos (show Region.wanted o2 (yielded ops a1.tmps) = true by unfold Region.wanted; rw [p5])]
  unfold Oper.wp
  rw [show (execOp a1.eval o2).run P w = .ok (.value (.int .i64 k)) w by simp [execOp, p4, hx2]]
  show Kc (a1.put o2.dst (.int .i64 k)) w
  rw [p6, ha2]
  refine hKc _ _ ?_
  refine wpList_step (fun Kc hKc => ?_)
  rw [if_pos (show Region.wanted o3 (yielded ops a2.tmps) = true by unfold Region.wanted; rw [p9])]
  unfold Oper.wp
  rw [hrun3, Oper.upon_enter]
  have hVR : VR { g with ρ := fun _ => v, σ := fun _ => t, S := fun _ k => oki k ∧ k < w.heap.size } (fun _ => true) w (fun _ => False) (.slice e t) y (.own 0) [v] := by simp only [VR]; exact ⟨trivial, trivial⟩
  have hOw : OwnR { g with ρ := fun _ => v, σ := fun _ => t, S := fun _ k => oki k ∧ k < w.heap.size } w (.slice e t) y (.own 0) := ⟨rfl, hSv⟩
  have hLo : LentOk { g with ρ := fun _ => v, σ := fun _ => t, S := fun _ k => oki k ∧ k < w.heap.size } w (idsT (.slice e t) (.own 0)) := by
    refine ⟨fun j hj => ⟨hv1, fun k hk => hk.2⟩, fun i hi j hj hne => ?_⟩
    have h1 := List.mem_singleton.1 hi
    have h2 := List.mem_singleton.1 hj
    exact (hne (h1.trans h2.symm)).elim
  refine Calls.mono (hM w _ [v] hVR hOw hLo) ?_
  intro ee w' he
  cases ee with
  | panicked ch => exact he.elim
  | outgrown => exact he.elim
  | returned v' =>
    obtain ⟨n, t', z, hq, hv', q1, q2, q3, q4, q5, q6⟩ := he
    subst hq
    show Kc (a2.put o3.dst v') w'
    rw [p10, hv']
    refine hKc _ _ ?_
    simp only [borK] at hk
    split at hk
    · rename_i z' hz
      split at hk
      · rename_i x' m' hs
        obtain ⟨e1, e2⟩ := cast_some hz
        subst e1
        have e2 : z = z' := e2
        subst e2
        refine hK _ _ _ hk ?_
        obtain ⟨gc, r1, r2, r3⟩ := q6 rfl
        have r1 : gc.σ 0 = t ∧ Kd.S t.kd e w' 0 (gc.S 0) (gc.ρ 0) z := r1
        obtain ⟨r4, r5⟩ := r2 0 (List.mem_singleton.2 rfl)
        have r4 : gc.ρ 0 = v := r4
        have hlent : ∀ k, LentS { g with ρ := fun _ => v, σ := fun _ => t, S := fun _ k => oki k ∧ k < w.heap.size } (idsT (.slice e t) (.own 0)) k → oki k := by
          rintro k ⟨j, _, hk⟩
          exact hk.1
        have hz1 : (Ty.slice e t).kd.M w' 0 (fun k => oki k ∨ w.heap.size ≤ k) z [v] := by
          refine ⟨v, rfl, ?_⟩
          rw [← r4]
          exact Kd.R_mono (Kd.S_R r1.2) (fun k hk => (r5 k hk).1.imp (hlent k) id)
        have hx1 := f4 hs hz1
        rw [← f1] at hx1
        have hH1 := Kd.H_widen (Kd.H_mono hH (ok' := fun k => g.S r0 k ∨ w.heap.size ≤ k) (fun k hk => .inl hk))
        have hH2 := Kd.H_step (w1 := w') hH1 (fun k hk hn hlt => q5 k hlt (fun hl => hn (.inl (hlent k hl))))
        have hS2 := Kd.H_back hH2 hx1 (fun k hk => hk.imp id (fun h => ⟨.inr h, h⟩))
        have hS3 : Kd.S t0.kd e0 w' 0 (fun k => (g.S r0 k ∨ w.heap.size ≤ k) ∧ k < w'.heap.size) (.slice (some ⟨bb, 0, none⟩) xs.length cc) (xs.set i.toNat x') := Kd.S_mono (Kd.S_bound hS2) (fun k hk => ⟨hk.1, hk.2.2.1⟩)
        have hal : Alive ((kT u.d2, some (.tv (.v (.int .i64) k .no))) :: (kT u.d1, none) :: st) (kR r0) := ⟨_, by rw [get_cons_ne _ _ (kT_kR _ _), get_cons_ne _ _ (kT_kR _ _)]; exact hrow⟩
        have hg1 : ∀ {q v}, get [(kR r0, some (Val.row e0 t0 (xs.set i.toNat x')))] (kR q) = some v → q = r0 ∧ v = .row e0 t0 (xs.set i.toNat x') := by
          intro q v hv
          by_cases eq : q = r0
          · subst eq
            rw [get_cons_same] at hv
            exact ⟨rfl, (Option.some.inj hv).symm⟩
          · rw [get_cons_ne _ _ (fun e' => eq (kR_inj e').symm)] at hv
            cases hv
        obtain ⟨g', hg'⟩ := hR2.marked hs3 (n := n) (w' := w') (L := [r0]) (rows := [(kR r0, some (.row e0 t0 (xs.set i.toNat x')))]) (S' := fun _ k => (g.S r0 k ∨ w.heap.size ≤ k) ∧ k < w'.heap.size)
          (fun i => dom_one_ne _ (kT_kR i r0).symm) (fun b => dom_one_ne _ (kB_kR b r0).symm) (fun q => by
            constructor
            · intro hq
              by_cases eq : q = r0
              · rw [eq]; exact List.mem_singleton.2 rfl
              · rw [dom_one_ne _ (fun e' => eq (kR_inj e').symm)] at hq; cases hq
            · intro hq
              rw [List.mem_singleton.1 hq]
              exact dom_cons_same _ _ _) (fun q hq => by rw [List.mem_singleton.1 hq]; exact hal) q1 q2 q3 q4
          (fun k hk hn => q5 k hk (fun hl => hn ⟨r0, List.mem_singleton.2 rfl, (hoki k (hlent k hl)).1⟩))
          (fun q v hv => by
            obtain ⟨e1, e2⟩ := hg1 hv
            subst e1
            exact ⟨e0, t0, _, e2, hσ, by rw [e3]; exact hS3⟩)
          (fun q v hv k hk => ⟨hk.1.imp (fun h => ⟨r0, List.mem_singleton.2 rfl, h⟩) id, hk.2⟩)
          (fun q q' v v' hv hv' hne => (hne ((hg1 hv).1.trans (hg1 hv').1.symm)).elim)
        exact ⟨g', hg'⟩
      · cases hk
    · cases hk
end
end Go.Proofs.Ythgbcbnmdioknaa.Ref

namespace Go.Proofs.Ythgbcbnmdioknaa.Ref
open Go.RowKit Go.Proofs.YthgbcbnmdioknaaW.PrintWords Go.Proofs.YthgbcbnmdioknaaW.PrintLast

section
variable {P : Program} {T : Tab} {G : Sigs} {F : Fx} {g : Gh} {st : St} {a : Act} {w w' : World} {o : Oper} {d : Nat} {l : List Nat} {wr : Wr} {D : Nat → Bool} {ok ok' : Nat → Prop}
theorem argsF_AVR (h : Rel F g st a w) : ∀ {xs : List Operand} {ts : List Nat} {as : List AV} {ids l : List Nat}, (argsF T xs ts).run st = some ((as, ids), l) → (∀ r ∈ ids, Alive st (kR r)) ∧ ∀ {ids' : List Nat}, (∀ r ∈ ids, r ∈ ids') → (∀ r ∈ ids', Alive st (kR r)) → AVRs w (F.ok g (drops ids' ++ st)) as (xs.map a.eval)
  | [], ts, as, ids, l, hr => by
    have := run_ret hr
    injection this with e1 e2
    subst e1
    subst e2
    exact ⟨fun r hr => (List.not_mem_nil hr).elim, fun _ _ => rfl⟩
  | x :: xs, ts, as, ids, l, hr => by
    obtain ⟨v, l1, l2, h1, h2, _⟩ := run_bind hr
    split at h2
    · rename_i t y m
      obtain ⟨z, l3, l4, h3, h4, _⟩ := run_bind h2
      obtain ⟨⟨as', ids'⟩, l5, l6, h5, h6, _⟩ := run_bind h4
      have := run_ret h6
      injection this with e1 e2
      subst e1
      subst e2
      obtain ⟨p1, p2⟩ := argsF_AVR h h5
      refine ⟨fun r hr => (List.mem_append.1 hr).elim (full_alive h3 r) (p1 r), fun {J} hJ hA => ⟨_, _, rfl, ?_, p2 (fun r hr => hJ r (List.mem_append.2 (.inr hr))) hA⟩⟩
      have hv := evt_TV h h1
      simp only [TVR] at hv
      obtain ⟨cs, e, hv⟩ := hv
      exact ⟨cs, e, Foot.mono (full_FK h h3 hv) (fun k hk => frozen_ok h hA (hk.imp id (fun ⟨r, hr, hs⟩ => ⟨r, hJ r (List.mem_append.2 (.inl hr)), hs⟩)))⟩
    · exact (run_fail h2).elim
theorem Rel.calledB (h : Rel F g st a w) {d b : Nat} (hd : F.slot d) {sg : Sig} {t : Ty} {x : t.den} {m : Mk} {r : Ret} {v : Value} {w' : World} (hb : get st (kB b) = some (.box t x m))
    (h8 : ∀ j ∈ sigIds sg, j < 8) (hfr : ∀ j ∈ sigIds sg, dom st (kR (rid d j)) = false) (hp : PostB sg w (F.ok g st) (g.β b) t r v w') :
    ∃ (y : t.den) (rs : Ret) (g' : Gh), r = ⟨t, y⟩ :: rs ∧ Rel F g' ((postOf d sg rs ++ [(kB b, some (.box t y .no))]) ++ st) (a.put (some d) v) w' := by
  obtain ⟨y, rs, gc, vs, cs, ty, hrr, hos, htp, hout, hgrow, hfr2, hblk, hfk, hv, hres, hid, hdis⟩ := hp
  refine ⟨y, rs, ghCall g gc d (sigIds sg), hrr, ?_⟩
  have hab : Alive st (kB b) := ⟨_, hb⟩
  have hrow := takeVals_get (d := d) hres
  have hrow1 : ∀ p ∈ (takeVals d sg rs).1, ∃ j ∈ sigIds sg, p.1 = kR (rid d j) := fun p hp => by obtain ⟨j, hj, e, _⟩ := hrow p hp; exact ⟨j, hj, e⟩
  have hdom := takeVals_dom (d := d) hres
  have hT0 := fun i => postOf_T (i := i) hrow1
  have hB0 := fun b => postOf_B (b := b) hrow1
  have hR0 := fun q => postOf_R (q := q) hrow1 hdom h8
  have hT : ∀ i, (dom (postOf d sg rs ++ [(kB b, some (.box t y .no))]) (kT i) = true ↔ i = d) ∧ (∀ v, get (postOf d sg rs ++ [(kB b, some (.box t y .no))]) (kT i) = some v → i = d ∧ v = .tv (match (takeVals d sg rs).2 with
    | [v] => v
    | vs => .tup vs)) := by
    intro i
    constructor
    · rw [dom_app, dom_one_ne _ (kT_kB i b).symm, Bool.or_false]
      exact (hT0 i).1
    · intro v hv
      cases hq : dom (postOf d sg rs) (kT i) with
      | true => rw [get_app_in hq] at hv; exact (hT0 i).2 v hv
      | false => rw [get_app_out hq, get_cons_ne _ _ (kT_kB i b).symm] at hv; cases hv
  have hB : ∀ b', (dom (postOf d sg rs ++ [(kB b, some (.box t y .no))]) (kB b') = true ↔ b' = b) ∧ (∀ v, get (postOf d sg rs ++ [(kB b, some (.box t y .no))]) (kB b') = some v → b' = b ∧ v = .box t y .no) := by
    intro b'
    constructor
    · rw [dom_app, hB0, Bool.false_or]
      by_cases e : b' = b
      · subst e; simp [dom_cons_same]
      · rw [dom_one_ne _ (fun e' => e (kB_inj e').symm)]; simp [e]
    · intro v hv
      rw [get_app_out (hB0 b')] at hv
      by_cases e : b' = b
      · subst e
        rw [get_cons_same] at hv
        exact ⟨rfl, (Option.some.inj hv).symm⟩
      · rw [get_cons_ne _ _ (fun e' => e (kB_inj e').symm)] at hv; cases hv
  have hR : ∀ q, dom (postOf d sg rs ++ [(kB b, some (.box t y .no))]) (kR q) = byCall d (sigIds sg) q := by
    intro q
    rw [dom_app, dom_one_ne _ (kB_kR b q), Bool.or_false]
    exact hR0 q
  have aB : ∀ b', Alive ((postOf d sg rs ++ [(kB b, some (.box t y .no))]) ++ st) (kB b') → Alive st (kB b') := by
    intro b' ha
    by_cases e : b' = b
    · subst e; exact hab
    · refine (alive_app_out ?_).1 ha
      cases hq : dom (postOf d sg rs ++ [(kB b, some (.box t y .no))]) (kB b') with
      | false => rfl
      | true => exact (e ((hB b').1.1 hq)).elim
  have hnew : ∀ {q}, dom st (kR q) = true → byCall d (sigIds sg) q = false := by
    intro q hq
    cases e : byCall d (sigIds sg) q with
    | false => rfl
    | true =>
      obtain ⟨j, hj, rfl, _⟩ := byCall_spec e
      rw [hfr j hj] at hq
      cases hq
  have hSnew : ∀ {q}, byCall d (sigIds sg) q = true → ∀ k, (ghCall g gc d (sigIds sg)).S q k → w.heap.size ≤ k ∧ k < w'.heap.size := by
    intro q hq k hk
    have hk' : gc.S (q % 8) k := by simpa [ghCall, hq] using hk
    obtain ⟨j, hj, _, e⟩ := byCall_spec hq
    rw [e] at hk'
    exact (hid j hj).2 k hk'
  have hSold : ∀ {q}, byCall d (sigIds sg) q = false → (ghCall g gc d (sigIds sg)).S q = g.S q := by
    intro q hq
    simp [ghCall, hq]
  have hold : ∀ {q}, Alive ((postOf d sg rs ++ [(kB b, some (.box t y .no))]) ++ st) (kR q) → byCall d (sigIds sg) q = false → Alive st (kR q) := by
    intro q ha hq
    exact (alive_app_out (by rw [hR, hq])).1 ha
  have hokk : Mv g (ghCall g gc d (sigIds sg)) (dom st) (dom ((postOf d sg rs ++ [(kB b, some (.box t y .no))]) ++ st)) w w' (F.ok g st) (F.ok (ghCall g gc d (sigIds sg)) ((postOf d sg rs ++ [(kB b, some (.box t y .no))]) ++ st)) → ∀ k, okP gc (sigIds sg) w (F.ok g st) k → k < w'.heap.size → F.ok (ghCall g gc d (sigIds sg)) ((postOf d sg rs ++ [(kB b, some (.box t y .no))]) ++ st) k := by
    intro hmv k hk hlt
    have hlim : F.w0.heap.size ≤ w.heap.size := h.grow
    by_cases hkl : k < w.heap.size
    · have hk1 : F.ok g st k := by
        rcases hk.1 with h1 | h1
        · exact h1
        · omega
      exact hmv.ok k hk1 hkl
    · refine ⟨.inr (.inl (by omega)), ?_⟩
      rintro (⟨b', hb', e⟩ | ⟨q, hq, e⟩)
      · have := h.boxLt (aB b' hb')
        have e' : g.β b' = k := e
        omega
      · cases hc : byCall d (sigIds sg) q with
        | true =>
          have e' : gc.S (q % 8) k := by simpa [ghCall, hc] using e
          obtain ⟨j, hj, _, ej⟩ := byCall_spec hc
          rw [ej] at e'
          exact hk.2 j hj e'
        | false =>
          rw [hSold hc] at e
          have := (h.newR q (hold hq hc) k e).2
          omega
  refine h.upd (ghCall g gc d (sigIds sg)) (postOf d sg rs ++ [(kB b, some (.box t y .no))]) (a.put (some d) v) w' (fun k => k = g.β b) (by rw [put_size, h.size]) (fun i hi => by cases e : dom (postOf d sg rs ++ [(kB b, some (.box t y .no))]) (kT i) with | false => rfl | true => have h1 := (hT i).1.1 e; have h2 := hd.1; omega) (by rw [put_defers, h.defers]) hos htp hout hgrow (fun k hk hne => hfr2 k hk hne) (fun k hk => .inl ⟨b, hab, hk.symm⟩) (fun _ _ => rfl) (fun _ _ => rfl) ?_ ?_ ?_ ?_ ?_ ?_ ?_ ?_ ?_ ?_ ?_ ?_ ?_ ?_
  · intro q hq; simp [ghCall, hnew hq]
  · intro q hq; simp [ghCall, hnew hq]
  · intro q _ hq
    rw [hR] at hq
    exact hSold hq
  · rintro k hk (⟨b', hb', e⟩ | ⟨q, hq, e⟩)
    · exact .inl ⟨b', aB b' hb', e⟩
    · cases hc : byCall d (sigIds sg) q with
      | true =>
        have := hSnew hc k e
        omega
      | false =>
        rw [hSold hc] at e
        exact .inr ⟨q, hold hq hc, e⟩
  · intro b' hb' hd' e
    have := h.dBB b' b hb' hab e
    rw [(hB b').1.2 this] at hd'
    cases hd'
  · intro q hq _ k hk e
    subst e
    exact h.dBR b q hab hq hk
  · intro i hi
    refine put_ne (fun e => ?_)
    rw [(hT i).1.2 e] at hi
    cases hi
  · intro hmv i v' hv'
    obtain ⟨e1, e2⟩ := (hT i).2 v' hv'
    subst e1
    subst e2
    refine ⟨_, rfl, ?_⟩
    rw [put_same (by rw [h.size]; exact hd.2), hv]
    refine tupled_TV (takeVals_TV (gc := gc) (ok := okP gc (sigIds sg) w (F.ok g st)) (fun j hj => ?_) (.inr (hokk hmv)) hres)
    have hb := byCall_rid (d := i) hj h8
    have h2 : rid i j % 8 = j := by have := h8 j hj; unfold rid; omega
    refine ⟨by simp [ghCall, hb, h2], ?_⟩
    rw [dom_app, hR, hb, Bool.true_or]
  · intro hmv b' v' hv'
    obtain ⟨e1, e2⟩ := (hB b').2 v' hv'
    subst e1
    subst e2
    obtain ⟨t2, x2, m2, q1, q2, _⟩ := h.boxes b' _ hb
    injection q1 with q1 _ _
    subst q1
    exact ⟨t, y, .no, rfl, ⟨q2, cs, ty, hblk, VR_ok (hokk hmv) (VR_no.2 hfk)⟩, h.newB b' hab⟩
  · intro q v' hv'
    have hc : byCall d (sigIds sg) q = true := by rw [← hR]; exact dom_of_get hv'
    have hv2 : get (postOf d sg rs) (kR q) = some v' := by
      rwa [get_app_in (by rw [hR0]; exact hc)] at hv'
    rcases List.mem_append.1 (get_mem hv2) with hm | hm
    · obtain ⟨j, hj, e, e', t, xs, e2, hrr⟩ := hrow _ hm
      injection e2 with e2
      have eq : q = rid d j := kR_inj e
      have h2 : q % 8 = j := by have := h8 j hj; rw [eq]; unfold rid; omega
      refine ⟨e', t, xs, e2, ?_, fun k hk => ?_⟩
      · refine ⟨by show (ghCall g gc d (sigIds sg)).σ q = t; simp only [ghCall, hc, if_true, h2]; exact hrr.1, ?_⟩
        show Kd.S t.kd e' w' 0 ((ghCall g gc d (sigIds sg)).S q) ((ghCall g gc d (sigIds sg)).ρ q) xs
        simp only [ghCall, hc, if_true, h2]
        exact hrr.2
      · have := hSnew hc k hk
        exact ⟨.inl (Nat.le_trans h.grow this.1), this.2⟩
    · have := List.mem_singleton.1 hm
      injection this with e _
      exact (kT_kR _ _ e.symm).elim
  · intro q hq
    rw [hR] at hq
    obtain ⟨j, hj, e, h2⟩ := byCall_spec hq
    simp only [ghCall, hq, if_true, h2]
    exact (hid j hj).1
  · intro b1 b2 hb1 hb2 e
    exact h.dBB b1 b2 (aB b1 hb1) (aB b2 hb2) e
  · intro b1 q hb1 hq hk
    have hb' := aB b1 hb1
    cases hc : byCall d (sigIds sg) q with
    | true =>
      have h1 := hSnew hc _ hk
      have h2 := h.boxLt hb'
      have h3 : w.heap.size ≤ g.β b1 := h1.1
      omega
    | false =>
      rw [hSold hc] at hk
      exact h.dBR b1 q hb' (hold hq hc) hk
  · intro q q' hq hq' hne k hk hk'
    cases hc : byCall d (sigIds sg) q with
    | true =>
      cases hc' : byCall d (sigIds sg) q' with
      | true =>
        obtain ⟨j, hj, e, e1⟩ := byCall_spec hc
        obtain ⟨j', hj', e', e1'⟩ := byCall_spec hc'
        have hk1 : gc.S j k := by simpa [ghCall, hc, e1] using hk
        have hk2 : gc.S j' k := by simpa [ghCall, hc', e1'] using hk'
        refine hdis j hj j' hj' (fun e2 => hne ?_) k hk1 hk2
        rw [e, e', e2]
      | false =>
        have h1 := hSnew hc k hk
        rw [hSold hc'] at hk'
        have := (h.newR q' (hold hq' hc') k hk').2
        omega
    | false =>
      rw [hSold hc] at hk
      cases hc' : byCall d (sigIds sg) q' with
      | true =>
        have h1 := hSnew hc' k hk'
        have := (h.newR q (hold hq hc) k hk).2
        omega
      | false =>
        rw [hSold hc'] at hk'
        exact h.dRR q q' (hold hq hc) (hold hq' hc') hne k hk hk'
theorem fresh_freeze {d : Nat} {ids J : List Nat} (hJ : ∀ r ∈ J, Alive st (kR r)) (h : ∀ j ∈ ids, dom st (kR (rid d j)) = false) : ∀ j ∈ ids, dom (drops J ++ st) (kR (rid d j)) = false := by
  intro j hj
  rw [dom_app, h j hj, Bool.or_false]
  cases hd : dom (drops J) (kR (rid d j)) with
  | false => rfl
  | true =>
    obtain ⟨r, hr, e⟩ := drops_only hd
    have := dom_of_alive (hJ r hr)
    rw [← e, h j hj] at this
    cases this
theorem op_goB (h : Rel F g st a w) {c : Call} {gn : Nat} (ho : o.op = .call c) (hc : c.callee = .value (.func gn)) (hn : ∀ d, o.dst = some d → F.slot d) {fn : Nat} {as : List AV} {post : Ret → Wr}
    (hr : (goEffB T G o gn c.args.toList c.argTypes.toList).run st = some (.call fn as post, l)) {r : Ret} (hS : ∀ sg, G fn = some sg → Told P sg fn as r) : OpOk P F o st (post r) a w := by
  unfold goEffB at hr
  split at hr
  · rename_i d x xs hd hxs
    split at hr
    · rename_i sg hsg
      obtain ⟨v, l1, l2, h1, h2, _⟩ := run_bind hr
      split at h2
      · rename_i b
        obtain ⟨u, l3, hb, h4, _⟩ := run_rd h2
        split at h4
        · rename_i t y m
          obtain ⟨hem, h5⟩ := run_chk h4
          obtain ⟨z, l5, l6, h6, h7, _⟩ := run_bind h5
          obtain ⟨⟨as1, ids⟩, l7, l8, h8, h9, _⟩ := run_bind h7
          obtain ⟨hck, h10⟩ := run_chk h9
          obtain ⟨hfr, L, h11⟩ := freshP_run h10
          have := run_ret h11
          injection this with e1 e2 e3
          subst e1
          subst e2
          subst e3
          simp only [Bool.and_eq_true] at hck
          obtain ⟨hnd, hnd2, h8a⟩ := hck
          have hlt8 : ∀ j ∈ sigIds sg, j < 8 := fun j hj => by
            have := List.all_eq_true.1 h8a j hj
            exact Nat.le_of_ble_eq_true this
          obtain ⟨⟨⟨fn, hfn, hname, hbody⟩, _⟩, _, hBB, _⟩ := hS sg hsg
          have hBB := hBB t z as1 rfl
          obtain ⟨hal, hav⟩ := argsF_AVR h h8
          have hav := hav (ids' := ids) (fun _ h => h) hal
          have h1f := h.freeze hal
          have hx := ev_TV h h1
          simp only [TVR] at hx
          obtain ⟨t', x', m', q1, hτ, cs, ty, hh, hvr⟩ := h.boxes b _ hb
          injection q1 with q1 q2 q3
          subst q1
          cases q2
          cases q3
          have h0 : offp (g.τ b) [] = 0 := by cases g.τ b <;> simp [offp]
          have hx : a.eval x = .pointer (some ⟨g.β b, 0, none⟩) := by rw [hx.1, h0]
          have hids : idsT t m = [] := by simpa using hem
          have hfk : Kd.FK t.kd w (F.ok g (drops ids ++ st)) z cs := Foot.mono (full_FK h h6 hvr) (fun k hk => by
            rcases hk with hk | ⟨q, hq, _⟩
            · exact frozen_ok h hal (.inl hk)
            · rw [hids] at hq; cases hq)
          have hb1 : get (drops ids ++ st) (kB b) = some (.box t y m) := by rw [get_app_out (dom_drops_B _ _)]; exact hb
          have hargs : c.args.map a.eval = (Value.pointer (some ⟨g.β b, 0, none⟩) :: xs.map a.eval).toArray := by
            apply Array.ext'
            simp [hxs, hx]
          have hf : a.eval (.func gn) = .func (.func gn) #[] #[] := by
            have hf := ev_TV h (x := .func gn) (tv := .clo gn []) (l := []) rfl
            simp only [TVR, TVRs] at hf
            obtain ⟨vs, ef, hvs⟩ := hf
            rw [ef, hvs]
          have hrun : (execOp a.eval o).run P w = .ok (.enter gn (Value.pointer (some ⟨g.β b, 0, none⟩) :: xs.map a.eval).toArray) w := by
            have hname' : ¬ fn.name = "runtime.NumGoroutine" := fun e => by rw [e] at hname; simp at hname
            have hbody' : ¬ fn.body = none := fun e => by rw [e] at hbody; cases hbody
            simp [execOp, ho, resolve, hc, hf, Deferred.ofValue, invoke, callFunc, hfn, hname', hbody', hargs]
          intro ops Kc Q hw hK
          unfold Oper.wp
          rw [hrun, Oper.upon_enter]
          refine Calls.mono (hBB w (F.ok g (drops ids ++ st)) _ (g.β b) cs ty hh (fun hk => hk.2 (.inl ⟨b, ⟨_, hb1⟩, rfl⟩)) hfk hav) ?_
          intro e w' he
          cases e with
          | returned v' =>
            obtain ⟨y', rs, g', hrr, hg'⟩ := h1f.calledB (hn d hd) hb1 hlt8 (fresh_freeze hal hfr) he
            subst hrr
            show Kc (a.put o.dst v') w'
            rw [hd]
            refine hK g' _ _ ?_
            show Rel F g' (((postOf d sg rs ++ [(kB b, some (.box t y' .no))]) ++ drops ids) ++ st) _ w'
            rw [List.append_assoc]
            exact hg'
          | panicked ch => exact he.elim
          | outgrown => exact he.elim
        · exact (run_fail h4).elim
      · exact (run_fail h2).elim
    · exact (run_fail hr).elim
  · exact (run_fail hr).elim
/-- A pointer to a new variable is handed back. -/
theorem Rel.gotBox (h : Rel F g st a w) {d : Nat} (hd : F.slot d) {t : Ty} {x : t.den} {cs : List Value} {blk E : Nat} {w' : World} (hf : dom st (kB d) = false) (hbl : Below w.heap.size w w') (hblk : w.heap.size ≤ blk) (hnew : w'.heap[blk]? = some (.cells cs.toArray E (0, 0)))
    (hfk : Kd.FK t.kd w' (fun k => (F.ok g st k ∨ w.heap.size ≤ k) ∧ k ≠ blk) x cs) :
    ∃ g', Rel F g' ((kB d, some (.box t x .no)) :: (kT d, some (.tv (.box d []))) :: st) (a.put (some d) (.pointer (some ⟨blk, 0, none⟩))) w' := by
  let g' : Gh := { g with β := updF g.β d blk, τ := updF g.τ d t }
  let wr : Wr := [(kB d, some (.box t x .no)), (kT d, some (.tv (.box d [])))]
  have hne : ∀ b, dom st (kB b) = true → b ≠ d := fun b hb e => by subst e; rw [hf] at hb; cases hb
  have dB : ∀ b, b ≠ d → dom wr (kB b) = false := fun b hb => by
    show dom [(kB d, some (Val.box t x .no)), (kT d, some (.tv (.box d [])))] (kB b) = false
    rw [dom_cons_ne _ _ (fun e => hb (kB_inj e).symm), dom_one_ne _ (kT_kB d b)]
  have dR : ∀ r, dom wr (kR r) = false := fun r => by
    show dom [(kB d, some (Val.box t x .no)), (kT d, some (.tv (.box d [])))] (kR r) = false
    rw [dom_cons_ne _ _ (kB_kR d r), dom_one_ne _ (kT_kR d r)]
  have gB : ∀ b v, get wr (kB b) = some v → b = d ∧ v = .box t x .no := fun b v hv => by
    by_cases e : b = d
    · subst e
      have : get wr (kB b) = some (Val.box t x .no) := get_cons_same _ _ _
      rw [this] at hv
      exact ⟨rfl, (Option.some.inj hv).symm⟩
    · have h0 := dB b e
      have : dom wr (kB b) = true := dom_of_get hv
      rw [h0] at this; cases this
  have hpush : ∀ k, k < w.heap.size → w'.heap[k]? = w.heap[k]? := hbl.block
  have aB : ∀ b, Alive (wr ++ st) (kB b) → b = d ∨ (b ≠ d ∧ Alive st (kB b)) := fun b hb => by
    by_cases e : b = d
    · exact .inl e
    · exact .inr ⟨e, (alive_app_out (dB b e)).1 hb⟩
  have aR : ∀ r, Alive (wr ++ st) (kR r) → Alive st (kR r) := fun r hr => (alive_app_out (dR r)).1 hr
  have βd : g'.β d = blk := updF_same _ _ _
  have βo : ∀ b, b ≠ d → g'.β b = g.β b := fun b hb => updF_ne hb
  have hmut : ∀ k, Mut g' (wr ++ st) k → k = blk ∨ Mut g st k := by
    rintro k (⟨b, hb, rfl⟩ | ⟨r, hr, hk⟩)
    · rcases aB b hb with rfl | ⟨e, hb⟩
      · exact .inl βd
      · exact .inr (.inl ⟨b, hb, (βo b e).symm⟩)
    · exact .inr (.inr ⟨r, aR r hr, hk⟩)
  refine ⟨g', h.upd g' wr (a.put (some d) (.pointer (some ⟨blk, 0, none⟩))) w' (fun _ => False) (by rw [put_size, h.size]) (fun i hi => by
      show dom [(kB d, some (Val.box t x .no)), (kT d, some (.tv (.box d [])))] (kT i) = false
      rw [dom_cons_ne _ _ (kT_kB i d).symm]
      exact dom_one_ne _ (fun e => by have h1 := kT_inj e; have h2 := hd.1; omega)) (by rw [put_defers, h.defers]) hbl.os hbl.tape hbl.output hbl.size (fun k hk _ => hpush k hk) (fun _ hk => hk.elim)
    (fun b hb => βo b (hne b hb)) (fun b hb => updF_ne (hne b hb)) (fun _ _ => rfl) (fun _ _ => rfl) (fun _ _ _ => rfl)
    (fun k hk hm => (hmut k hm).resolve_left (by omega)) (fun _ _ _ hk => hk) (fun _ _ _ _ _ hk => hk) ?_ ?_ ?_ (fun r v hv => ?_) (fun r hr => by rw [dR r] at hr; cases hr) ?_ ?_ ?_⟩
  · intro i hi
    refine put_ne (fun e => ?_)
    subst e
    have : dom wr (kT i) = true := by
      show dom [(kB i, some (Val.box t x .no)), (kT i, some (.tv (.box i [])))] (kT i) = true
      rw [dom_cons_ne _ _ (kT_kB i i).symm, dom_cons_same]
    rw [this] at hi; cases hi
  · intro hmv i v hv
    have hv2 : get [(kB d, some (Val.box t x .no)), (kT d, some (.tv (.box d [])))] (kT i) = some v := hv
    rw [get_cons_ne _ _ (kT_kB i d).symm] at hv2
    by_cases e : i = d
    · subst e
      rw [get_one_same] at hv2
      injection hv2 with hv2
      subst hv2
      refine ⟨_, rfl, ?_⟩
      rw [put_same (by rw [h.size]; exact hd.2)]
      simp only [TVR]
      refine ⟨?_, ?_⟩
      · rw [βd]
        have : offp (g'.τ i) [] = 0 := by cases g'.τ i <;> rfl
        rw [this]
      · show dom ((kB i, _) :: _) (kB i) = true
        exact dom_cons_same _ _ _
    · rw [get_one_ne _ (fun e' => e (kT_inj e').symm)] at hv2
      cases hv2
  · intro hmv b v hv
    obtain ⟨rfl, rfl⟩ := gB b v hv
    have hgw := h.grow
    refine ⟨t, x, .no, rfl, ⟨updF_same _ _ _, cs, E, ?_, VR_ok (ok := fun k => (F.ok g st k ∨ w.heap.size ≤ k) ∧ k ≠ blk) (fun k hk hlt => ?_) (VR_no.2 hfk)⟩, .inl ?_⟩
    · rw [βd]; exact hnew
    · by_cases hkl : k < w.heap.size
      · exact hmv.ok k (hk.1.resolve_right (by omega)) hkl
      · refine ⟨.inr (.inl (by omega)), fun hm => ?_⟩
        rcases hmut k hm with h1 | h1
        · exact hk.2 h1
        · have := h.mutLt h1
          omega
    · rw [βd]; omega
  · have := dR r
    rw [dom_of_get hv] at this
    cases this
  · intro b b' hb hb' e
    rcases aB b hb with e1 | ⟨e1, hb1⟩ <;> rcases aB b' hb' with e2 | ⟨e2, hb2⟩
    · rw [e1, e2]
    · rw [e1, βd, βo b' e2] at e
      have := h.boxLt hb2
      omega
    · rw [e2, βd, βo b e1] at e
      have := h.boxLt hb1
      omega
    · rw [βo b e1, βo b' e2] at e
      exact h.dBB b b' hb1 hb2 e
  · intro b r hb hr hk
    rcases aB b hb with e1 | ⟨e1, hb1⟩
    · rw [e1, βd] at hk
      have := (h.newR r (aR r hr) _ hk).2
      omega
    · rw [βo b e1] at hk
      exact h.dBR b r hb1 (aR r hr) hk
  · intro r r' hr hr' hne k hk
    exact h.dRR r r' (aR r hr) (aR r' hr') hne k hk

theorem op_goN (h : Rel F g st a w) {c : Call} {gn : Nat} (ho : o.op = .call c) (hc : c.callee = .value (.func gn)) (hn : ∀ d, o.dst = some d → F.slot d) {fn : Nat} {as : List AV} {post : Ret → Wr}
    (hr : (goEffN T G o gn c.args.toList c.argTypes.toList).run st = some (.call fn as post, l)) {r : Ret} (hS : ∀ sg, G fn = some sg → Told P sg fn as r) : OpOk P F o st (post r) a w := by
  unfold goEffN at hr
  split at hr
  · rename_i d hd
    split at hr
    · rename_i sg hsg
      obtain ⟨⟨as1, ids⟩, l1, l2, h1, h2, _⟩ := run_bind hr
      obtain ⟨hnd, h3⟩ := run_chk h2
      obtain ⟨l4, hfr, h5, _⟩ := run_fresh h3
      have := run_ret h5
      injection this with e1 e2 e3
      subst e1
      subst e2
      subst e3
      obtain ⟨⟨⟨fn, hfn, hname, hbody⟩, _⟩, _, _, hNN⟩ := hS sg hsg
      have hNN := hNN .bool true as1 rfl
      obtain ⟨hal, hav⟩ := argsF_AVR h h1
      have hav := hav (ids' := ids) (fun _ h => h) hal
      have h1f := h.freeze hal
      have hf : a.eval (.func gn) = .func (.func gn) #[] #[] := by
        have hf := ev_TV h (x := .func gn) (tv := .clo gn []) (l := []) rfl
        simp only [TVR, TVRs] at hf
        obtain ⟨vs, ef, hvs⟩ := hf
        rw [ef, hvs]
      have hargs : c.args.map a.eval = (c.args.toList.map a.eval).toArray := by
        apply Array.ext'
        simp
      have hrun : (execOp a.eval o).run P w = .ok (.enter gn (c.args.toList.map a.eval).toArray) w := by
        have hname' : ¬ fn.name = "runtime.NumGoroutine" := fun e => by rw [e] at hname; simp at hname
        have hbody' : ¬ fn.body = none := fun e => by rw [e] at hbody; cases hbody
        simp [execOp, ho, resolve, hc, hf, Deferred.ofValue, invoke, callFunc, hfn, hname', hbody', hargs]
      intro ops Kc Q hw hK
      unfold Oper.wp
      rw [hrun, Oper.upon_enter]
      refine Calls.mono (hNN w (F.ok g (drops ids ++ st)) _ hav) ?_
      intro e w' he
      cases e with
      | returned v' =>
        obtain ⟨t, y, blk, cs, ty, hrr, hbl, hv', hge, hblk, hfk⟩ := he
        subst hrr
        have hfr1 : dom (drops ids ++ st) (kB d) = false := by rw [dom_app, dom_drops_B, hfr]; rfl
        obtain ⟨g', hg'⟩ := h1f.gotBox (hn d hd) hfr1 hbl hge hblk hfk
        show Kc (a.put o.dst v') w'
        rw [hd, hv']
        refine hK g' _ _ ?_
        show Rel F g' (([(kB d, some (.box t y .no)), (kT d, some (.tv (.box d [])))] ++ drops ids) ++ st) _ w'
        rw [List.append_assoc]
        exact hg'
      | panicked ch => exact he.elim
      | outgrown => exact he.elim
    · exact (run_fail hr).elim
  · exact (run_fail hr).elim
theorem op_goes (h : Rel F g st a w) {c : Call} {f : Operand} (ho : o.op = .call c) (hc : c.callee = .value f) (hn : ∀ d, o.dst = some d → F.slot d) {fn : Nat} {as : List AV} {post : Ret → Wr}
    (hr : (goEff T G o f c.args.toList c.argTypes.toList).run st = some (.call fn as post, l)) {r : Ret} (hS : ∀ sg, G fn = some sg → Told P sg fn as r) : OpOk P F o st (post r) a w := by
  unfold goEff at hr
  split at hr
  · split at hr
    · exact op_goM h ho hc hn hr hS
    · split at hr
      · exact op_goB h ho hc hn hr hS
      · split at hr
        · exact op_goN h ho hc hn hr hS
        · exact op_go h ho hc hn hr (fun sg hs => (hS sg hs).1)
  · exact op_go h ho hc hn hr (fun sg hs => (hS sg hs).1)
end
end Go.Proofs.Ythgbcbnmdioknaa.Ref

namespace Go.Proofs.Ythgbcbnmdioknaa.Ref
open Go.RowKit Go.Proofs.YthgbcbnmdioknaaW.PrintWords Go.Proofs.YthgbcbnmdioknaaW.PrintLast

def Same (st st' : St) : Prop := (∀ k, get st k = get st' k) ∧ ∀ k, dom st k = dom st' k
theorem Same.refl (st : St) : Same st st := ⟨fun _ => rfl, fun _ => rfl⟩
theorem Same.symm {st st' : St} (h : Same st st') : Same st' st := ⟨fun k => (h.1 k).symm, fun k => (h.2 k).symm⟩
theorem Same.trans {st st' st'' : St} (h : Same st st') (h' : Same st' st'') : Same st st'' := ⟨fun k => (h.1 k).trans (h'.1 k), fun k => (h.2 k).trans (h'.2 k)⟩
theorem Same.app {st st' : St} (wr : Wr) (h : Same st st') : Same (wr ++ st) (wr ++ st') := by
  refine ⟨fun k => ?_, fun k => by rw [dom_app, dom_app, h.2]⟩
  cases e : dom wr k with
  | true => rw [get_app_in e, get_app_in e]
  | false => rw [get_app_out e, get_app_out e, h.1]
theorem Same.again {st : St} {k : Nat} {v : Val} (h : get st k = some v) : Same st ((k, some v) :: st) := by
  refine ⟨fun k' => ?_, fun k' => ?_⟩
  · by_cases e : k = k'
    · subst e; rw [get_cons_same, h]
    · rw [get_cons_ne _ _ e]
  · by_cases e : k = k'
    · subst e; rw [dom_cons_same, dom_of_get h]
    · rw [dom_cons_ne _ _ e]
theorem Rel.same {F : Fx} {g : Gh} {st st' : St} {a : Act} {w : World} (h : Rel F g st a w) (e : Same st st') : Rel F g st' a w := by
  have hd : dom st = dom st' := funext e.2
  have hA : Alive st = Alive st' := by
    funext k
    unfold Alive
    rw [e.1]
  have hM : Mut g st = Mut g st' := by
    funext k
    unfold Mut
    rw [hA]
  have hk : F.ok g st = F.ok g st' := by
    funext k
    unfold Fx.ok
    rw [hM]
  obtain ⟨h1, h1', h2, h3, h4, h5, h6, h7, h8, h9, h10, h11, h12, h13, h14, h15, h16⟩ := h
  refine ⟨h1, h1', h2, h3, h4, h5, h6, h7, ?_, ?_, ?_, ?_, ?_, ?_, ?_, ?_, ?_⟩
  · intro i v hv; rw [← e.1] at hv; rw [← hd, ← hk]; exact h8 i v hv
  · intro i v hv; rw [← e.1] at hv; rw [← hd, ← hk]; exact h9 i v hv
  · intro i v hv; rw [← e.1] at hv; exact h10 i v hv
  · intro r hr; rw [← e.2] at hr; exact h11 r hr
  · rw [← hA]; exact h12
  · rw [← hA]; exact h13
  · rw [← hA]; exact h14
  · rw [← hA]; exact h15
  · rw [← hA]; exact h16

section
variable {P : Program} {T : Tab} {G : Sigs} {O : Orac} {F : Fx} {g : Gh} {st st' : St} {a : Act} {w : World} {o : Oper} {ops : Array Oper} {r : Ret} {wr : Wr} {L : List Nat}
theorem splitKey_ok {k : Nat} {K : KSt} (h : splitKey k st K = some r) : ∃ st', Same st st' ∧ K st' = some r := by
  unfold splitKey at h
  split at h
  · rename_i x m hk
    cases x with
    | true => exact ⟨_, Same.again hk, h⟩
    | false => exact ⟨_, Same.again hk, h⟩
  · exact ⟨st, Same.refl st, h⟩
theorem splitO_ok {k : Option Nat} {K : KSt} (h : splitO k st K = some r) : ∃ st', Same st st' ∧ K st' = some r := by
  cases k with
  | none => exact ⟨st, Same.refl st, h⟩
  | some k => exact splitKey_ok h

def OracOk (P : Program) (G : Sigs) (O : Orac) : Prop := ∀ f as K r, O f as K = some r → ∃ q, (∀ sg, G f = some sg → Told P sg f as q) ∧ K q = some r
def dstLt (p n : Nat) (o : Oper) : Bool := match o.dst with
  | some d => Nat.ble p d && Nat.blt d n
  | none => true
theorem dstLt_lt {F : Fx} (h : dstLt F.np F.n o = true) : ∀ d, o.dst = some d → F.slot d := by
  intro d hd
  unfold dstLt at h
  rw [hd] at h
  have h := (Bool.and_eq_true _ _).mp h
  exact ⟨Nat.le_of_ble_eq_true h.1, Nat.le_of_ble_eq_true h.2⟩
/-- What an operation does to the state, its reads being l. -/
def Does (P : Program) (T : Tab) (G : Sigs) (o : Oper) (st : St) (wr : Wr) (l : List Nat) : Prop := match callOf o with
  | some (f, c) => ∃ fn as post q, (goEff T G o f c.args.toList c.argTypes.toList).run st = some (.call fn as post, l) ∧ (∀ sg, G fn = some sg → Told P sg fn as q) ∧ wr = post q
  | none => (opEff T G o).run st = some (.wr wr, l)
theorem callOf_spec {f : Operand} {c : Call} (h : callOf o = some (f, c)) : o.op = .call c ∧ c.callee = .value f := by
  unfold callOf at h
  split at h
  · rename_i c' hc
    split at h
    · rename_i f' hf
      injection h with h
      injection h with h1 h2
      subst h1
      subst h2
      exact ⟨hc, hf⟩
    · cases h
  · cases h
theorem op_do (hT : TabOk P T) (h : Rel F g st a w) (hn : dstLt F.np F.n o = true) {l : List Nat} (hd : Does P T G o st wr l) : OpOk P F o st wr a w := by
  unfold Does at hd
  split at hd
  · rename_i f c hc
    obtain ⟨fn, as, post, q, h1, h2, rfl⟩ := hd
    obtain ⟨e1, e2⟩ := callOf_spec hc
    exact op_goes h e1 e2 (dstLt_lt hn) h1 h2
  · exact op_all hT h (dstLt_lt hn) hd
theorem Does.local {l : List Nat} (hd : Does P T G o st wr l) (hs : ∀ k ∈ l, get st' k = get st k ∧ dom st' k = dom st k) : Does P T G o st' wr l := by
  unfold Does at hd ⊢
  split at hd
  · obtain ⟨fn, as, post, q, h1, h2, h3⟩ := hd
    exact ⟨fn, as, post, q, run_local h1 hs, h2, h3⟩
  · exact run_local hd hs
theorem opK_ok (hO : OracOk P G O) {K : Wr → List Nat → Option Ret} (h : opK T G O o st K = some r) : ∃ wr l L, Does P T G o st wr l ∧ (∀ k ∈ l, k ∈ L) ∧ K wr L = some r := by
  unfold opK at h
  split at h
  · rename_i f c hc
    obtain ⟨q, l, h1, L, h2, h3⟩ := runK_some h
    cases q with
    | wr w' => cases h3
    | call fn as post =>
      obtain ⟨p, hp, h4⟩ := hO fn as _ r h3
      refine ⟨post p, l, L, ?_, h2, h4⟩
      unfold Does
      rw [hc]
      exact ⟨fn, as, post, p, h1, hp, rfl⟩
  · rename_i hc
    obtain ⟨q, l, h1, L, h2, h3⟩ := runK_some h
    cases q with
    | wr w' =>
      refine ⟨w', l, L, ?_, h2, h3⟩
      unfold Does
      rw [hc]
      exact h1
    | call fn as post => cases h3
/-- One step: whether it is carried out, and what it writes. -/
def StepF (P : Program) (T : Tab) (G : Sigs) (ops : List Oper) (o : Oper) (st : St) (wr : Wr) (L : List Nat) : Prop :=
  (∀ k ∈ keyO (guardKey ops o), k ∈ L) ∧ ((wants ops o st = some true ∧ ∃ l, Does P T G o st wr l ∧ ∀ k ∈ l, k ∈ L) ∨ (wants ops o st = some false ∧ wr = passWr o))
theorem wants_local {ops : List Oper} (hs : ∀ k ∈ keyO (guardKey ops o), get st' k = get st k) : wants ops o st' = wants ops o st := by
  unfold wants
  split
  · rfl
  · split
    · rename_i k hk
      rw [hs k (by rw [hk]; exact List.mem_singleton.2 rfl)]
    · rfl
theorem StepF.local {ops : List Oper} (h : StepF P T G ops o st wr L) (hs : ∀ k ∈ L, get st' k = get st k ∧ dom st' k = dom st k) : StepF P T G ops o st' wr L := by
  obtain ⟨h1, h2⟩ := h
  refine ⟨h1, ?_⟩
  rw [wants_local (fun k hk => (hs k (h1 k hk)).1)]
  refine h2.imp (fun h => ⟨h.1, ?_⟩) id
  obtain ⟨l, h3, h4⟩ := h.2
  exact ⟨l, h3.local (fun k hk => hs k (h4 k hk)), h4⟩
theorem stepK_ok (hO : OracOk P G O) {ops : List Oper} {K : St → Wr → List Nat → Option Ret} (h : stepK T G O ops o st K = some r) : ∃ st' wr L, Same st st' ∧ StepF P T G ops o st' wr L ∧ K st' wr L = some r := by
  unfold stepK at h
  obtain ⟨st1, hs1, h⟩ := splitO_ok h
  obtain ⟨st2, hs2, h⟩ := splitO_ok h
  split at h
  · rename_i hw
    obtain ⟨wr, l, L, h1, h2, h3⟩ := opK_ok hO h
    exact ⟨st2, wr, _, hs1.trans hs2, ⟨fun k hk => List.mem_append.2 (.inl hk), .inl ⟨hw, l, h1, fun k hk => List.mem_append.2 (.inr (h2 k hk))⟩⟩, h3⟩
  · rename_i hw
    exact ⟨st2, _, _, hs1.trans hs2, ⟨fun k hk => hk, .inr ⟨hw, rfl⟩⟩, h⟩
  · cases h
theorem wanted_eq (h : Rel F g st a w) {b : Bool} (hw : wants ops.toList o st = some b) : Region.wanted o (yielded ops a.tmps) = b := by
  unfold wants at hw
  unfold Region.wanted
  split at hw
  · rename_i hg
    rw [hg]
    injection hw
  · rename_i j want hg
    rw [hg]
    simp only
    split at hw
    · rename_i k hk
      unfold guardKey at hk
      rw [hg] at hk
      simp only at hk
      split at hk
      · rename_i og hog
        split at hk
        · rename_i d hd
          injection hk with hk
          subst hk
          have hog' : ops[j]? = some og := by rw [← hog, Array.getElem?_toList]
          have hy : yielded ops a.tmps j = match a.tmps[d]? with
            | some (.bool b) => some b
            | _ => none := by
            unfold yielded
            simp [hog', hd]
            rfl
          split at hw
          · rename_i x m hx
            obtain ⟨tv, e, ht⟩ := h.tmps d _ hx
            injection e with e
            subst e
            have hv := TV_bool ht
            have : a.tmps[d]? = some (.bool x) := by
              rw [Array.getD_eq_getD_getElem?] at hv
              cases e : a.tmps[d]? with
              | none => rw [e] at hv; cases hv
              | some u => rw [e] at hv; exact congrArg some hv
            rw [hy, this]
            injection hw with hw
            rw [← hw]
            cases x <;> cases want <;> rfl
          · rename_i hx
            obtain ⟨tv, e, ht⟩ := h.tmps d _ hx
            injection e with e
            subst e
            simp only [TVR] at ht
            injection hw with hw
            rw [← hw, hy]
            rw [Array.getD_eq_getD_getElem?] at ht
            cases e : a.tmps[d]? with
            | none => rfl
            | some u => rw [e] at ht; have : u = undef := ht; rw [this]; rfl
          · cases hw
        · cases hk
      · cases hk
    · cases hw
theorem step_do (hT : TabOk P T) (h : Rel F g st a w) (hn : dstLt F.np F.n o = true) (hs : StepF P T G ops.toList o st wr L) {Kc : Act → World → Prop} {Q : Exit → Act → World → Prop} (hK : ∀ g' a' w', Rel F g' (wr ++ st) a' w' → Kc a' w') :
    if Region.wanted o (yielded ops a.tmps) = true then Oper.wp P o a w Kc Q else Kc (a.put o.dst undef) w := by
  obtain ⟨_, ⟨hw, l, hd, _⟩ | ⟨hw, rfl⟩⟩ := hs
  · have := wanted_eq h hw
    rw [if_pos this]
    exact op_do hT h hn hd ops Kc Q this hK
  · have := wanted_eq h hw
    rw [if_neg (by rw [this]; exact Bool.false_ne_true)]
    unfold passWr at hK
    cases hd : o.dst with
    | none =>
      rw [hd] at hK
      exact hK g a w h
    | some d =>
      rw [hd] at hK
      exact hK g _ _ (h.put (dstLt_lt hn d hd) rfl rfl rfl rfl (by simp only [TVR]))
theorem nilTest_spec {d S : Nat} {b : Bool} {x : Operand} (h : nilTest o = some (d, b, S, x)) : ∃ t', o.op = .binOp (if b then .eql else .neq) S x (.const (.slice none 0 0)) t' ∧ o.guard = none ∧ o.dst = some d := by
  unfold nilTest at h
  split at h
  · rename_i t' h1 h2 h3
    injection h with h
    injection h with e1 h
    injection h with e2 h
    injection h with e3 e4
    subst e1; subst e2; subst e3; subst e4
    exact ⟨_, h1, h2, h3⟩
  · rename_i t' h1 h2 h3
    injection h with h
    injection h with e1 h
    injection h with e2 h
    injection h with e3 e4
    subst e1; subst e2; subst e3; subst e4
    exact ⟨_, h1, h2, h3⟩
  · cases h
theorem nil_run {t e : TypeId} (hu : P.underlying t = some (.slice e)) (A : Option Addr) (n c : Nat) (X Y : Operand) (b : Bool) :
    (do eqGuard (if b then .eql else .neq) t X Y (.slice A n c) (.slice none 0 0); binOp (if b then .eql else .neq) t (.slice A n c) (.slice none 0 0) : Sem Value).run P w = .ok (.bool (if A.isNone then b else !b)) w := by
  cases b with
  | true =>
    have h1 := Lib.run_eql_slice_nil w t e A n c 0 0 hu
    simp only [if_true]
    cases A <;> simp [eqGuard, h1]
  | false =>
    have h1 := run_neq_slice_nil_any w t e A n c 0 0 hu
    simp only [Bool.false_eq_true, if_false]
    cases A <;> simp [eqGuard, h1]
theorem nilK_ok (hT : TabOk P T) (h : Rel F g st a w) (hn : dstLt F.np F.n o = true) {d S : Nat} {b : Bool} {x : Operand} (ho : nilTest o = some (d, b, S, x)) {K : Bool → Option Ret} (hk : nilK T b S x st K = some r) :
    ∃ u : Bool, K u = some r ∧ OpOk P F o st [(kT d, some (.tv (.v .bool u .no)))] a w := by
  obtain ⟨t', h1, h2, h3⟩ := nilTest_spec ho
  unfold nilK at hk
  obtain ⟨⟨t, y, m⟩, l1, q1, L1, _, hk⟩ := runK_some hk
  obtain ⟨z, l2, q2, L2, _, hk⟩ := runK_some hk
  obtain ⟨hty, cs, hev, hv⟩ := evd_TV h q1
  have hfk := full_FK h q2 hv
  have fin : ∀ {A : Option Addr} {n c : Nat} {e : TypeId}, P.underlying S = some (.slice e) → a.eval x = .slice A n c → OpOk P F o st [(kT d, some (.tv (.v .bool (if A.isNone then b else !b) .no)))] a w := by
    intro A n c e hu hx
    refine op_value h h3 (dstLt_lt hn d h3) ?_ (bool_TV _ _)
    unfold execOp
    simp only [h1]
    rw [Sem.run_bind, hx]
    have := nil_run (P := P) (w := w) hu A n c x (.const (.slice none 0 0)) b
    show Result.andThen ((do eqGuard (if b then .eql else .neq) S x (.const (.slice none 0 0)) (.slice A n c) (.slice none 0 0); binOp (if b then .eql else .neq) S (.slice A n c) (.slice none 0 0) : Sem Value).run P w) _ = _
    rw [this]
    rfl
  simp only at hk
  cases t with
  | slice e t =>
    have hu := (hT.ty _ _ hty).und.1
    cases hkn : nilKnown (.slice e t) m with
    | true =>
      rw [hkn] at hk
      have hm : m = .nil := by
        cases m <;> first | rfl | cases hkn
      subst hm
      simp only [VR] at hv
      subst hv
      refine ⟨b, hk, ?_⟩
      have := fin (A := none) (n := 0) (c := 0) hu hev
      exact this
    | false =>
      rw [hkn] at hk
      have hk : cond (List.isEmpty (α := t.den) z) (both (K b) (K (!b))) (K (!b)) = some r := hk
      obtain ⟨A, c, hcs, _, _, _, hr⟩ := Foot.now hfk
      have hx : a.eval x = .slice A (List.length (α := t.den) z) c := by rw [hev, hcs]; rfl
      have hf := fin hu hx
      cases hz : List.isEmpty (α := t.den) z with
      | true =>
        rw [hz] at hk
        obtain ⟨k1, k2⟩ := both_some (show both (K b) (K (!b)) = some r from hk)
        refine ⟨_, ?_, hf⟩
        cases A <;> simp [k1, k2]
      | false =>
        rw [hz] at hk
        have hne : 0 < List.length (α := t.den) z := by
          cases z with
          | nil => cases hz
          | cons q l => exact Nat.succ_pos _
        obtain ⟨ad, hA, _⟩ := hr hne
        refine ⟨_, ?_, hf⟩
        rw [hA]
        exact hk
  | _ =>
    have hk : (none : Option Ret) = some r := by
      cases m <;> exact hk
    cases hk
theorem fusing_spec {l : List Oper} {u : Fuse} (h : fusing T o l st = some u) : ∃ o2 o3 r, l = o2 :: o3 :: r ∧ fuse3 T o o2 o3 = some u := by
  unfold fusing at h
  split at h
  · rename_i u' hf
    split at h
    · injection h with h
      subst h
      unfold fuseOf at hf
      split at hf
      · exact ⟨_, _, _, rfl, hf⟩
      · cases hf
    · cases h
  · cases h
/-- A region in the order that is written. -/
theorem runOps_ok (hT : TabOk P T) (hO : OracOk P G O) {n : Nat} (hF : F.n = n) {K : KSt} {Q : Exit → Act → World → Prop} (hQ : ∀ g st a w, K st = some r → Rel F g st a w → Q .normal a w) :
    ∀ (l : List Oper) (g : Gh) (st : St) (a : Act) (w : World), l.all (dstLt F.np n) = true → runOps T G O ops.toList l 0 st K = some r → Rel F g st a w → wpList P ops Q l a w
  | [], g, st, a, w, _, h, hr => hQ g st a w h hr
  | o :: l, g, st, a, w, hn, h, hr => by
    rw [List.all_cons, Bool.and_eq_true] at hn
    subst hF
    unfold runOps at h
    split at h
    · rename_i d b S x hnt
      obtain ⟨u, hk, hop⟩ := nilK_ok hT hr hn.1 hnt h
      obtain ⟨_, _, hg, _⟩ := nilTest_spec hnt
      refine wpList_step (fun Kc hKc => ?_)
      have hw : Region.wanted o (yielded ops a.tmps) = true := by unfold Region.wanted; rw [hg]
      rw [if_pos hw]
      exact hop ops Kc Q hw (fun g' a' w' hr' => hKc a' w' (runOps_ok hT hO rfl hQ l g' _ a' w' hn.2 hk hr'))
    · split at h
      · rename_i u hfu
        obtain ⟨o2, o3, l', hl, hu⟩ := fusing_spec hfu
        subst hl
        obtain ⟨h1, h2⟩ := hn
        rw [List.all_cons, Bool.and_eq_true, List.all_cons, Bool.and_eq_true] at h2
        obtain ⟨h2, h3, h4⟩ := h2
        obtain ⟨c, _, _, p3, _, _, p6, _, _, _, p10, _⟩ := fuse3_spec hu
        obtain ⟨b, lb, hb, _, _, hb2⟩ := runK_some h
        obtain ⟨q, hq, hk⟩ := hO _ _ _ _ hb2
        exact bor_do hT hr hu (dstLt_lt h1 _ p3) (dstLt_lt h2 _ p6) (dstLt_lt h3 _ p10) hb hq hk (fun wr a' w' hk' hr' => by
          obtain ⟨g', hr'⟩ := hr'
          exact runOps_ok hT hO rfl hQ l' g' _ a' w' h4 hk' hr')
      · obtain ⟨st', wr, L, hs, hf, hk⟩ := stepK_ok hO h
        refine wpList_step (fun Kc hKc => ?_)
        exact step_do hT (hr.same hs) hn.1 hf (fun g' a' w' hr' => hKc a' w' (runOps_ok hT hO rfl hQ l g' _ a' w' hn.2 hk hr'))
  termination_by l => l.length
end
end Go.Proofs.Ythgbcbnmdioknaa.Ref

namespace Go.Proofs.Ythgbcbnmdioknaa.Ref
open Go.RowKit Go.Proofs.YthgbcbnmdioknaaW.PrintWords Go.Proofs.YthgbcbnmdioknaaW.PrintLast

/-- What operation i writes, what it reads. -/
abbrev Hist := List (Wr × List Nat)
def wrAt (H : Hist) (i : Nat) : Wr := match H[i]? with
  | some p => p.1
  | none => []
/-- The state behind those of the first n that b says. -/
def stB (st : St) (H : Hist) (b : Nat → Bool) : Nat → St
  | 0 => st
  | n + 1 => if b n then wrAt H n ++ stB st H b n else stB st H b n
theorem meets_not {x y : List Nat} (h : meets x y = false) : ∀ k ∈ x, k ∉ y := by
  intro k hk hy
  unfold meets at h
  have := List.any_eq_false.1 h k hk
  simp [hy] at this
theorem keysOf_dom {w : Wr} {k : Nat} (h : dom w k = true) : k ∈ keysOf w := by
  induction w with
  | nil => simp [dom] at h
  | cons p w ih =>
    obtain ⟨k', v⟩ := p
    by_cases e : k' = k
    · subst e; exact List.mem_cons_self ..
    · rw [dom_cons_ne _ _ e] at h
      exact List.mem_cons_of_mem _ (ih h)
theorem stB_same {st : St} {H : Hist} {b b' : Nat → Bool} {k : Nat} : ∀ n, (∀ i, i < n → dom (wrAt H i) k = true → b i = b' i) → get (stB st H b n) k = get (stB st H b' n) k ∧ dom (stB st H b n) k = dom (stB st H b' n) k
  | 0, _ => ⟨rfl, rfl⟩
  | n + 1, h => by
    have ih := stB_same (st := st) (H := H) (b := b) (b' := b') (k := k) n (fun i hi => h i (by omega))
    unfold stB
    cases hd : dom (wrAt H n) k with
    | true =>
      rw [h n (by omega) hd]
      cases b' n with
      | true =>
        simp only [if_true]
        rw [get_app_in hd, get_app_in hd, dom_app, dom_app, hd]
        exact ⟨rfl, rfl⟩
      | false => simpa using ih
    | false =>
      have e1 : get (if b n = true then wrAt H n ++ stB st H b n else stB st H b n) k = get (stB st H b n) k := by
        split
        · rw [get_app_out hd]
        · rfl
      have e2 : get (if b' n = true then wrAt H n ++ stB st H b' n else stB st H b' n) k = get (stB st H b' n) k := by
        split
        · rw [get_app_out hd]
        · rfl
      have e3 : dom (if b n = true then wrAt H n ++ stB st H b n else stB st H b n) k = dom (stB st H b n) k := by
        split
        · rw [dom_app, hd, Bool.false_or]
        · rfl
      have e4 : dom (if b' n = true then wrAt H n ++ stB st H b' n else stB st H b' n) k = dom (stB st H b' n) k := by
        split
        · rw [dom_app, hd, Bool.false_or]
        · rfl
      rw [e1, e2, e3, e4]
      exact ih
/-- The first m only. -/
def below (b : Nat → Bool) (m : Nat) (i : Nat) : Bool := b i && Nat.blt i m
theorem stB_below {st : St} {H : Hist} {b : Nat → Bool} {m : Nat} : ∀ n, m ≤ n → stB st H (below b m) n = stB st H b m
  | 0, h => by
    have : m = 0 := by omega
    subst this; rfl
  | n + 1, h => by
    by_cases e : m = n + 1
    · subst e
      have : ∀ k, k ≤ n + 1 → stB st H (below b (n + 1)) k = stB st H b k := by
        intro k
        induction k with
        | zero => intro _; rfl
        | succ k ih =>
          intro hk
          have hb : below b (n + 1) k = b k := by
            have : Nat.blt k (n + 1) = true := Nat.ble_eq_true_of_le (by omega)
            unfold below
            rw [this, Bool.and_true]
          unfold stB
          rw [hb, ih (by omega)]
      exact this _ (Nat.le_refl _)
    · have hb : below b m n = false := by
        have : Nat.blt n m = false := by
          cases e : Nat.blt n m with
          | false => rfl
          | true =>
            have := Nat.le_of_ble_eq_true e
            omega
        unfold below
        rw [this, Bool.and_false]
      have h1 : stB st H (below b m) (n + 1) = stB st H (below b m) n := by
        show (if below b m n = true then _ else _) = _
        rw [hb]
        rfl
      rw [h1]
      exact stB_below n (by omega)

section
variable {P : Program} {T : Tab} {G : Sigs} {O : Orac} {F : Fx} {g : Gh} {st st' : St} {a : Act} {w : World} {o : Oper} {ops : Array Oper} {r : Ret} {wr : Wr} {L : List Nat} {B : List Nat} {n : Nat}
/-- What a region's reckoning in the written order has shown: of each operation, what it writes and reads; who meets whom. -/
structure Drawn (P : Program) (T : Tab) (G : Sigs) (ops : List Oper) (B : List Nat) (st : St) (H : Hist) : Prop where
  step : ∀ i o p, ops[i]? = some o → H[i]? = some p → ∃ st', Same (stB st H (fun _ => true) i) st' ∧ StepF P T G ops o st' p.1 p.2
  apart : ∀ i j p q, i < j → H[i]? = some p → H[j]? = some q → (B.getD j 0).testBit i = false → (∀ k, dom p.1 k = true → k ∉ q.2) ∧ (∀ k, dom p.1 k = true → dom q.1 k = false) ∧ ∀ k, dom q.1 k = true → k ∉ p.2
theorem apartAll_ok {m : Nat} {rj wj : List Nat} : ∀ {E : List (Nat × List Nat × List Nat)}, apartAll m rj wj E = true → ∀ i ri wi, (i, ri, wi) ∈ E → m.testBit i = false → meets wi rj = false ∧ meets wi wj = false ∧ meets ri wj = false
  | [], _, _, _, _, he, _ => (List.not_mem_nil he).elim
  | (i', ri', wi') :: E, h, i, ri, wi, he, hb => by
    simp only [apartAll, Bool.and_eq_true, Bool.or_eq_true, Bool.not_eq_true', Bool.or_eq_false_iff] at h
    rcases List.mem_cons.1 he with e | he
    · injection e with e1 e2
      injection e2 with e2 e3
      subst e1
      subst e2
      subst e3
      rcases h.1 with h1 | h1
      · rw [hb] at h1; cases h1
      · exact ⟨h1.1.1, h1.1.2, h1.2⟩
    · exact apartAll_ok h.2 i ri wi he hb
theorem wrAt_app {H0 H1 : Hist} {i : Nat} (h : i < H0.length) : wrAt (H0 ++ H1) i = wrAt H0 i := by
  unfold wrAt
  rw [List.getElem?_append_left h]
theorem stB_app {H0 H1 : Hist} {b : Nat → Bool} : ∀ m, m ≤ H0.length → stB st (H0 ++ H1) b m = stB st H0 b m
  | 0, _ => rfl
  | m + 1, h => by
    unfold stB
    rw [wrAt_app (by omega), stB_app m (by omega)]
theorem runDraw_ok (hO : OracOk P G O) {ops : List Oper} {st0 : St} {K : KSt} : ∀ (l : List Oper) (H0 : Hist) (E : List (Nat × List Nat × List Nat)) (st : St), ops.drop H0.length = l → H0.length ≤ ops.length → Same (stB st0 H0 (fun _ => true) H0.length) st →
    Drawn P T G ops B st0 H0 → (∀ i p, H0[i]? = some p → (i, p.2, keysOf p.1) ∈ E) → runDraw T G O ops B H0.length l E st K = some r →
    ∃ H st', Drawn P T G ops B st0 H ∧ H.length = ops.length ∧ Same (stB st0 H (fun _ => true) H.length) st' ∧ K st' = some r
  | [], H0, E, st, hd, hle, hs, hD, hE, h => by
    have := List.drop_eq_nil_iff.1 hd
    exact ⟨H0, st, hD, by omega, hs, h⟩
  | o :: l, H0, E, st, hd, hle, hs, hD, hE, h => by
    unfold runDraw at h
    obtain ⟨st1, wr, L, hs1, hf, hk⟩ := stepK_ok hO h
    have hoj : ops[H0.length]? = some o := by
      have : (ops.drop H0.length)[0]? = some o := by rw [hd]; rfl
      rw [List.getElem?_drop, Nat.add_zero] at this
      exact this
    have hlt := (List.getElem?_eq_some_iff.1 hoj).1
    cases hap : apartAll (B.getD H0.length 0) L (keysOf wr) E with
    | false => rw [hap] at hk; cases hk
    | true =>
      rw [hap] at hk
      have hlen : (H0 ++ [(wr, L)]).length = H0.length + 1 := by simp
      have hlast : wrAt (H0 ++ [(wr, L)]) H0.length = wr := by
        unfold wrAt
        simp
      have hst : Same (stB st0 (H0 ++ [(wr, L)]) (fun _ => true) (H0 ++ [(wr, L)]).length) (wr ++ st1) := by
        rw [hlen]
        unfold stB
        rw [hlast, stB_app _ (Nat.le_refl _)]
        exact (hs.trans hs1).app wr
      have hget : ∀ {i p}, (H0 ++ [(wr, L)])[i]? = some p → (i < H0.length ∧ H0[i]? = some p) ∨ (i = H0.length ∧ p = (wr, L)) := by
        intro i p hp
        by_cases hi : i < H0.length
        · rw [List.getElem?_append_left hi] at hp
          exact .inl ⟨hi, hp⟩
        · have hi2 := (List.getElem?_eq_some_iff.1 hp).1
          rw [hlen] at hi2
          have e : i = H0.length := by omega
          subst e
          refine .inr ⟨rfl, ?_⟩
          simp at hp
          exact hp.symm
      have := runDraw_ok hO (ops := ops) (st0 := st0) (K := K) l (H0 ++ [(wr, L)]) ((H0.length, L, keysOf wr) :: E) (wr ++ st1) ?_ (by rw [hlen]; omega) hst ?_ ?_ (by rw [hlen]; exact hk)
      · exact this
      · rw [hlen, ← List.drop_drop, hd]; rfl
      · refine ⟨?_, ?_⟩
        · intro i o' p ho' hp
          rcases hget hp with ⟨hi, hp'⟩ | ⟨hi, hp'⟩
          · rw [stB_app i (by omega)]
            exact hD.step i o' p ho' hp'
          · subst hi
            subst hp'
            rw [hoj] at ho'
            injection ho' with ho'
            subst ho'
            rw [stB_app _ (Nat.le_refl _)]
            exact ⟨st1, hs.trans hs1, hf⟩
        · intro i j p q hij hp hq hb
          rcases hget hq with ⟨hj, hq'⟩ | ⟨hj, hq'⟩
          · rcases hget hp with ⟨hi, hp'⟩ | ⟨hi, hp'⟩
            · exact hD.apart i j p q hij hp' hq' hb
            · omega
          · subst hj
            subst hq'
            rcases hget hp with ⟨hi, hp'⟩ | ⟨hi, hp'⟩
            · obtain ⟨m1, m2, m3⟩ := apartAll_ok hap i _ _ (hE i p hp') hb
              refine ⟨fun k hk hL => meets_not m1 k (keysOf_dom hk) hL, fun k hk => ?_, fun k hk hL => meets_not m3 k hL (keysOf_dom hk)⟩
              cases e : dom wr k with
              | false => rfl
              | true => exact (meets_not m2 k (keysOf_dom hk) (keysOf_dom e)).elim
            · omega
      · intro i p hp
        rcases hget hp with ⟨hi, hp'⟩ | ⟨hi, hp'⟩
        · exact List.mem_cons_of_mem _ (hE i p hp')
        · subst hi
          subst hp'
          exact List.mem_cons_self ..
/-- What an operation reads is the same, whoever else has come up. -/
theorem Drawn.reads {ops : List Oper} {H : Hist} (hD : Drawn P T G ops B st H) {b : Nat → Bool} {i : Nat} {p : Wr × List Nat} (hp : H[i]? = some p) (hlt : i < n) (hn : n = H.length) (hbi : b i = false)
    (h1 : ∀ j, j < n → (B.getD i 0).testBit j = true → b j = true) (h2 : ∀ j, j < n → (B.getD j 0).testBit i = true → b j = false) :
    ∀ k ∈ p.2, get (stB st H b n) k = get (stB st H (fun _ => true) i) k ∧ dom (stB st H b n) k = dom (stB st H (fun _ => true) i) k := by
  intro k hk
  rw [← stB_below (b := fun _ => true) (m := i) n (by omega)]
  refine stB_same n (fun j hj hd => ?_)
  have hq : ∃ q, H[j]? = some q := ⟨_, List.getElem?_eq_getElem (by omega)⟩
  obtain ⟨q, hq⟩ := hq
  have hw : wrAt H j = q.1 := by unfold wrAt; rw [hq]
  rw [hw] at hd
  rcases Nat.lt_trichotomy j i with hji | hji | hji
  · have hb : below (fun _ => true) i j = true := by
      unfold below
      rw [Bool.true_and]
      exact Nat.ble_eq_true_of_le (by omega)
    rw [hb]
    cases e : b j with
    | true => rfl
    | false =>
      cases ht : (B.getD i 0).testBit j with
      | true => rw [h1 j hj ht] at e; cases e
      | false => exact ((hD.apart j i q p hji hq hp ht).1 k hd hk).elim
  · subst hji
    have hb : below (fun _ => true) j j = false := by
      unfold below
      cases e : Nat.blt j j with
      | false => rfl
      | true => have := Nat.le_of_ble_eq_true e; omega
    rw [hbi, hb]
  · have hb : below (fun _ => true) i j = false := by
      unfold below
      cases e : Nat.blt j i with
      | false => rfl
      | true => have := Nat.le_of_ble_eq_true e; omega
    rw [hb]
    cases e : b j with
    | false => rfl
    | true =>
      cases ht : (B.getD j 0).testBit i with
      | true => rw [h2 j hj ht] at e; cases e
      | false => exact ((hD.apart i j p q hji hp hq ht).2.2 k hd hk).elim
/-- It comes up now, or had come up in its turn: the same. -/
theorem Drawn.takes {ops : List Oper} {H : Hist} (hD : Drawn P T G ops B st H) {b : Nat → Bool} {i : Nat} {p : Wr × List Nat} (hp : H[i]? = some p) (hlt : i < n) (hn : n = H.length) (hbi : b i = false)
    (h2 : ∀ j, j < n → (B.getD j 0).testBit i = true → b j = false) : Same (p.1 ++ stB st H b n) (stB st H (up b i) n) := by
  have hw : wrAt H i = p.1 := by unfold wrAt; rw [hp]
  have key : ∀ m, m ≤ n → (m ≤ i → stB st H (up b i) m = stB st H b m) ∧ (i < m → Same (p.1 ++ stB st H b m) (stB st H (up b i) m)) := by
    intro m
    induction m with
    | zero => intro _; exact ⟨fun _ => rfl, fun h => by omega⟩
    | succ m ih =>
      intro hm
      obtain ⟨ih1, ih2⟩ := ih (by omega)
      refine ⟨fun hmi => ?_, fun him => ?_⟩
      · unfold stB
        rw [up_ne (by omega), ih1 (by omega)]
      · by_cases e : m = i
        · subst e
          unfold stB
          rw [up_self, hbi, ih1 (Nat.le_refl _), hw]
          exact Same.refl _
        · have hs := ih2 (by omega)
          have hq : ∃ q, H[m]? = some q := ⟨_, List.getElem?_eq_getElem (by omega)⟩
          obtain ⟨q, hq⟩ := hq
          have hwm : wrAt H m = q.1 := by unfold wrAt; rw [hq]
          unfold stB
          rw [up_ne e, hwm]
          cases hb : b m with
          | false => exact hs
          | true =>
            simp only [if_true]
            have ht : (B.getD m 0).testBit i = false := by
              cases ht : (B.getD m 0).testBit i with
              | false => rfl
              | true => rw [h2 m (by omega) ht] at hb; cases hb
            have hap := (hD.apart i m p q (by omega) hp hq ht).2.1
            refine Same.trans ?_ (hs.app q.1)
            refine ⟨fun k => ?_, fun k => by rw [dom_app, dom_app, dom_app, dom_app, ← Bool.or_assoc, ← Bool.or_assoc, Bool.or_comm (dom p.1 k)]⟩
            cases hd : dom p.1 k with
            | true =>
              rw [get_app_in hd, get_app_out (hap k hd), get_app_in hd]
            | false =>
              rw [get_app_out hd]
              cases hd' : dom q.1 k with
              | true => rw [get_app_in hd', get_app_in hd']
              | false => rw [get_app_out hd', get_app_out hd', get_app_out hd]
  exact (key n (Nat.le_refl _)).2 hlt
/-- The region. -/
theorem draw_ok (hT : TabOk P T) (hm : P.follows .mixedOrders = true) {id : Nat} {H : Hist} (hD : Drawn P T G ops.toList B st H) (hlen : H.length = ops.size) (hB : drawOk ops B = true) (hn : ops.toList.all (dstLt F.np F.n) = true) (hr : Rel F g st a w)
    {Q : Exit → Act → World → Prop} (hQ : ∀ g' a' w', Rel F g' (stB st H (fun _ => true) H.length) a' w' → Q .normal a' w') : (Code.region id ops true).wp P Q a w := by
  simp only [drawOk, Bool.and_eq_true] at hB
  have hTl : (rtab .any ops).2.length = ops.size := by simp [rtab]
  refine start_ (S := fun _ => True) (ds := []) (Array.replicate ops.size false) hm rfl rfl trivial (fun _ => ?_)
  refine inv_ (B := B) (T := rtab .any ops) (List.range ops.size) (fun b a w => ∃ g, Rel F g (stB st H b ops.size) a w) rfl hB.1 hB.2 ?_ ?_ ?_ ?_
  · rw [Bool.and_eq_true, beq_iff_eq, beq_iff_eq, hTl]
    refine ⟨?_, by simp⟩
    apply List.ext_getElem?
    intro j
    by_cases hj : j < ops.size
    · simp [lof, hj]
    · rw [List.getElem?_eq_none (by simp [lof]; omega), List.getElem?_eq_none (by simp; omega)]
  · have : ∀ m, stB st H (fun _ => false) m = st := by
      intro m
      induction m with
      | zero => rfl
      | succ m ih => unfold stB; simpa using ih
    exact ⟨g, by rw [this]; exact hr.drew⟩
  · intro i hi
    have hi := List.mem_range.1 hi
    intro b a w ⟨g, hg⟩ hbi hw1 hw2
    have hoi : ops[i]? = some ops[i] := Array.getElem?_eq_getElem hi
    have hol : ops.toList[i]? = some ops[i] := by rw [Array.getElem?_toList, hoi]
    have hp : ∃ p, H[i]? = some p := ⟨_, List.getElem?_eq_getElem (by omega)⟩
    obtain ⟨p, hp⟩ := hp
    obtain ⟨st', hs, hf⟩ := hD.step i _ p hol hp
    have h1 : ∀ j, j < ops.size → (B.getD i 0).testBit j = true → b j = true := fun j hj ht => hw1 j (by rw [ht, Bool.and_true]; simpa using hj)
    have h2 : ∀ j, j < ops.size → (B.getD j 0).testBit i = true → b j = false := fun j hj ht => hw2 j (by rw [ht, Bool.and_true]; simpa using hj)
    refine ⟨ops[i], hoi, fun K hK => ?_⟩
    have hrd := hD.reads hp hi hlen.symm hbi h1 h2
    have hf' : StepF P T G ops.toList ops[i] (stB st H b ops.size) p.1 p.2 := hf.local (fun k hk => ⟨(hrd k hk).1.trans (hs.1 k), (hrd k hk).2.trans (hs.2 k)⟩)
    have hno : dstLt F.np F.n ops[i] = true := List.all_eq_true.1 hn _ (List.mem_of_getElem? hol)
    refine step_do hT hg hno hf' (fun g' a' w' hg' => hK a' w' ⟨g', ?_⟩)
    exact hg'.same (hD.takes hp hi hlen.symm hbi h2)
  · intro b a w hb ⟨g, hg⟩
    refine hQ g a w ?_
    have : ∀ m, m ≤ ops.size → stB st H b m = stB st H (fun _ => true) m := by
      intro m
      induction m with
      | zero => intro _; rfl
      | succ m ih =>
        intro hm
        unfold stB
        rw [hb m (by simp; omega), ih (by omega)]
    rw [hlen, ← this _ (Nat.le_refl _)]
    exact hg
end
end Go.Proofs.Ythgbcbnmdioknaa.Ref

namespace Go.Proofs.Ythgbcbnmdioknaa.Ref
open Go.RowKit Go.Proofs.YthgbcbnmdioknaaW.PrintWords Go.Proofs.YthgbcbnmdioknaaW.PrintLast

def RenOk (st : St) (R : Ren) : Prop := ∀ q o v, (q, o, v) ∈ R → match o with
  | some r => get st (kR r) = some v
  | none => ∃ e t, v = .row e t []
def Fits (g g' : Gh) (R : Ren) : Prop := ∀ q o v, (q, o, v) ∈ R → match o with
  | some r => g'.ρ q = g.ρ r ∧ g'.σ q = g.σ r ∧ g'.S q = g.S r
  | none => g'.ρ q = .slice none 0 0 ∧ (∀ e t, v = .row e t [] → g'.σ q = t) ∧ g'.S q = fun _ => False
def Has (D : Nat → Bool) (R : Ren) : Prop := ∀ q o v, (q, o, v) ∈ R → D (kR q) = true
theorem RenOk.app {st : St} {R R' : Ren} (h : RenOk st R) (h' : RenOk st R') : RenOk st (R ++ R') := fun q o v hm => (List.mem_append.1 hm).elim (h q o v) (h' q o v)
theorem RenOk.nil {st : St} : RenOk st [] := fun _ _ _ h => (List.not_mem_nil h).elim
theorem Fits.left {g g' : Gh} {R R' : Ren} (h : Fits g g' (R ++ R')) : Fits g g' R := fun q o v hm => h q o v (List.mem_append.2 (.inl hm))
theorem Fits.right {g g' : Gh} {R R' : Ren} (h : Fits g g' (R ++ R')) : Fits g g' R' := fun q o v hm => h q o v (List.mem_append.2 (.inr hm))
theorem Has.left {D : Nat → Bool} {R R' : Ren} (h : Has D (R ++ R')) : Has D R := fun q o v hm => h q o v (List.mem_append.2 (.inl hm))
theorem Has.right {D : Nat → Bool} {R R' : Ren} (h : Has D (R ++ R')) : Has D R' := fun q o v hm => h q o v (List.mem_append.2 (.inr hm))

section
variable {F : Fx} {g g' : Gh} {st : St} {a : Act} {w : World} {D D' : Nat → Bool} {ok ok' : Nat → Prop}
theorem moveP_ok : ∀ {t : Ty} {x : t.den} {m m' : Mk} {d j j' : Nat} {R : Ren} {l : List Nat} {cs : List Value}, (moveP t x m d j).run st = some ((m', R, j'), l) →
    RenOk st R ∧ (Fits g g' R → Has D' R → VR g D w ok t x m cs → VR g' D' w ok t x m' cs)
  | .slice e t, x, .own r, m', d, j, j', R, l, cs, h => by
    obtain ⟨v, l1, h1, h2, _⟩ := run_rd h
    split at h2
    · rename_i e' t' xs
      have := run_ret h2
      injection this with e1 e2
      injection e2 with e2 e3
      subst e1
      subst e2
      refine ⟨?_, ?_⟩
      · intro q o v hm
        have := List.mem_singleton.1 hm
        injection this with a1 a2
        injection a2 with a2 a3
        subst a2
        subst a3
        exact h1
      · intro hf hh hv
        simp only [VR] at hv ⊢
        have := (hf (rid d j) (some r) _ (List.mem_singleton.2 rfl)).1
        exact ⟨by rw [this]; exact hv.1, hh _ _ _ (List.mem_singleton.2 rfl)⟩
    · exact (run_fail h2).elim
  | .slice e t, x, .nil, m', d, j, j', R, l, cs, h => by
    have := run_ret h
    injection this with e1 e2
    injection e2 with e2 e3
    subst e1
    subst e2
    refine ⟨?_, ?_⟩
    · intro q o v hm
      have := List.mem_singleton.1 hm
      injection this with a1 a2
      injection a2 with a2 a3
      subst a2
      subst a3
      exact ⟨e, t, rfl⟩
    · intro hf hh hv
      simp only [VR] at hv ⊢
      have := (hf (rid d j) none _ (List.mem_singleton.2 rfl)).1
      exact ⟨by rw [this]; exact hv, hh _ _ _ (List.mem_singleton.2 rfl)⟩
  | .pair p q, x, .pair m n, m', d, j, j', R, l, cs, h => by
    obtain ⟨⟨m1, R1, j1⟩, l1, l2, h1, h2, _⟩ := run_bind h
    obtain ⟨⟨m2, R2, j2⟩, l3, l4, h3, h4, _⟩ := run_bind h2
    have := run_ret h4
    injection this with e1 e2
    injection e2 with e2 e3
    subst e1
    subst e2
    refine ⟨(moveP_ok (cs := []) h1).1.app (moveP_ok (cs := []) h3).1, fun hf hh hv => ?_⟩
    simp only [VR] at hv ⊢
    obtain ⟨c0, c1, e, hv0, hv1⟩ := hv
    exact ⟨c0, c1, e, (moveP_ok h1).2 hf.left hh.left hv0, (moveP_ok h3).2 hf.right hh.right hv1⟩
  | .slice _ _, x, .no, m', d, j, j', R, l, cs, h => by cases run_ret h; exact ⟨RenOk.nil, fun _ _ hv => by simp only [VR] at hv ⊢; exact hv⟩
  | .slice _ _, x, .pair _ _, m', d, j, j', R, l, cs, h => by cases run_ret h; exact ⟨RenOk.nil, fun _ _ hv => by simp only [VR] at hv ⊢; exact hv⟩
  | .pair _ _, x, .no, m', d, j, j', R, l, cs, h => by cases run_ret h; exact ⟨RenOk.nil, fun _ _ hv => by simp only [VR] at hv ⊢; exact hv⟩
  | .pair _ _, x, .nil, m', d, j, j', R, l, cs, h => by cases run_ret h; exact ⟨RenOk.nil, fun _ _ hv => by simp only [VR] at hv ⊢; exact hv⟩
  | .pair _ _, x, .own _, m', d, j, j', R, l, cs, h => by cases run_ret h; exact ⟨RenOk.nil, fun _ _ hv => by simp only [VR] at hv ⊢; exact hv⟩
  | .int _, x, m, m', d, j, j', R, l, cs, h => by cases run_ret h; exact ⟨RenOk.nil, fun _ _ hv => by simp only [VR] at hv ⊢; exact hv⟩
  | .bool, x, m, m', d, j, j', R, l, cs, h => by cases run_ret h; exact ⟨RenOk.nil, fun _ _ hv => by simp only [VR] at hv ⊢; exact hv⟩
  | .str, x, m, m', d, j, j', R, l, cs, h => by cases run_ret h; exact ⟨RenOk.nil, fun _ _ hv => by simp only [VR] at hv ⊢; exact hv⟩
/-- What stands fast between the old words and the new. -/
structure Keeps (F : Fx) (g g' : Gh) (st : St) (D' : Nat → Bool) (w : World) (ok' : Nat → Prop) (fz : List Nat) : Prop where
  β : g'.β = g.β
  τ : g'.τ = g.τ
  ok : ∀ k, F.ok g st k → k < w.heap.size → ok' k
  fz : ∀ r ∈ fz, ∀ k, g.S r k → k < w.heap.size → ok' k
theorem full_keeps (h : Rel F g st a w) {t : Ty} {x y : t.den} {m : Mk} {l fz : List Nat} {cs : List Value} (hf : (full t x m).run st = some (y, l)) (hk : Keeps F g g' st D' w ok' fz) (hi : ∀ r ∈ idsT t m, r ∈ fz) (hv : VR g (dom st) w (F.ok g st) t x m cs) : VR g' D' w ok' t y .no cs := by
  refine VR_no.2 (Foot.mv (full_FK h hf hv) (fun _ _ _ => rfl) ?_)
  rintro k (h1 | ⟨r, hr, h1⟩) hlt
  · exact hk.ok k h1 hlt
  · exact hk.fz r (hi r hr) k h1 hlt
theorem refBox_TV {fz : List Nat} (hk : Keeps F g g' st D' w ok' fz) {t : TV} {v : Value} (ht : refBox t = true) (hb : ∀ b ∈ boxIn t, D' (kB b) = true) (hv : TVR g (dom st) w (F.ok g st) t v) : TVR g' D' w ok' t v := by
  cases t with
  | ref t x =>
    simp only [TVR] at hv ⊢
    obtain ⟨b, cs, e, hv⟩ := hv
    exact ⟨b, cs, e, Foot.mv hv (fun _ _ _ => rfl) hk.ok⟩
  | box b p =>
    simp only [TVR] at hv ⊢
    exact ⟨by rw [hk.β, hk.τ]; exact hv.1, hb b (by simp [boxIn])⟩
  | _ => cases ht
theorem refBox_TVs {fz : List Nat} (hk : Keeps F g g' st D' w ok' fz) : ∀ {ts : List TV} {vs : List Value}, ts.all refBox = true → (∀ b ∈ ts.flatMap boxIn, D' (kB b) = true) → TVRs g (dom st) w (F.ok g st) ts vs → TVRs g' D' w ok' ts vs
  | [], vs, _, _, h => by simp only [TVRs] at h ⊢; exact h
  | t :: ts, vs, ha, hb, h => by
    rw [List.all_cons, Bool.and_eq_true] at ha
    simp only [TVRs] at h ⊢
    obtain ⟨v, vs', e, h1, h2⟩ := h
    refine ⟨v, vs', e, refBox_TV hk ha.1 (fun b hb' => hb b ?_) h1, refBox_TVs hk ha.2 (fun b hb' => hb b ?_) h2⟩
    · rw [List.flatMap_cons]; exact List.mem_append.2 (.inl hb')
    · rw [List.flatMap_cons]; exact List.mem_append.2 (.inr hb')
theorem VR_blank {g : Gh} {D : Nat → Bool} {w : World} {ok : Nat → Prop} : ∀ (t : Ty) (x : t.den) (m : Mk) (cs : List Value), VR g D w ok t x m cs → VR g D w ok t (blankD t x m) m cs
  | .slice _ _, _, .own _, _, h => h
  | .slice _ _, _, .nil, _, h => h
  | .slice _ _, _, .no, _, h => h
  | .slice _ _, _, .pair _ _, _, h => h
  | .pair a b, x, .pair m n, cs, h => by
    obtain ⟨c0, c1, e, h1, h2⟩ := h
    exact ⟨c0, c1, e, VR_blank a x.1 m c0 h1, VR_blank b x.2 n c1 h2⟩
  | .pair _ _, _, .own _, _, h => h
  | .pair _ _, _, .nil, _, h => h
  | .pair _ _, _, .no, _, h => h
  | .int _, _, _, _, h => h
  | .bool, _, _, _, h => h
  | .str, _, _, _, h => h
theorem keepTV_ok (h : Rel F g st a w) {d : Nat} {own : Bool} {tv tv' : TV} {R : Ren} {fz l : List Nat} (hr : (keepTV d own tv).run st = some ((tv', R, fz), l)) :
    RenOk st R ∧ ∀ (fz' : List Nat) (v : Value), (∀ r ∈ fz, r ∈ fz') → Keeps F g g' st D' w ok' fz' → Fits g g' R → Has D' R → (∀ b ∈ boxesIn tv, D' (kB b) = true) → TVR g (dom st) w (F.ok g st) tv v → TVR g' D' w ok' tv' v := by
  unfold keepTV at hr
  split at hr
  · rename_i t x m
    split at hr
    · obtain ⟨⟨m', R', j'⟩, l1, l2, h1, h2, _⟩ := run_bind hr
      cases run_ret h2
      refine ⟨(moveP_ok (g := g) (g' := g') (D := dom st) (D' := D') (w := w) (ok := fun _ => True) (cs := []) h1).1, fun fz' v hz hk hf hh hb hv => ?_⟩
      simp only [TVR] at hv ⊢
      obtain ⟨cs, e, hv⟩ := hv
      exact ⟨cs, e, VR_blank _ _ _ _ ((moveP_ok h1).2 hf hh (VR_ok hk.ok hv))⟩
    · obtain ⟨y, l1, l2, h1, h2, _⟩ := run_bind hr
      cases run_ret h2
      refine ⟨RenOk.nil, fun fz' v hz hk hf hh hb hv => ?_⟩
      simp only [TVR] at hv ⊢
      obtain ⟨cs, e, hv⟩ := hv
      exact ⟨cs, e, full_keeps h h1 hk hz hv⟩
  · rename_i b p
    cases run_ret hr
    exact ⟨RenOk.nil, fun fz' v hz hk hf hh hb hv => refBox_TV hk rfl hb hv⟩
  · cases run_ret hr
    exact ⟨RenOk.nil, fun fz' v hz hk hf hh hb hv => refBox_TV hk rfl hb hv⟩
  · rename_i f caps
    obtain ⟨hc, h2⟩ := run_chk hr
    cases run_ret h2
    refine ⟨RenOk.nil, fun fz' v hz hk hf hh hb hv => ?_⟩
    simp only [TVR] at hv ⊢
    obtain ⟨vs, e, hv⟩ := hv
    exact ⟨vs, e, refBox_TVs hk hc hb hv⟩
  · exact (run_fail hr).elim
theorem keepSlots_ok (h : Rel F g st a w) {bs : List (Nat × Bool)} : ∀ {ss : List (Nat × Bool)} {S : St} {R : Ren} {fz l : List Nat}, (keepSlots bs ss).run st = some ((S, R, fz), l) →
    RenOk st R ∧ ∀ (fz' : List Nat), (∀ r ∈ fz, r ∈ fz') → Keeps F g g' st D' w ok' fz' → Fits g g' R → Has D' R → (∀ b, hasBox bs b = true → D' (kB b) = true) → ∀ k v, (k, v) ∈ S → ∃ i tv, k = kT i ∧ v = some (.tv tv) ∧ TVR g' D' w ok' tv (a.tmps.getD i undef)
  | [], S, R, fz, l, hr => by
    cases run_ret hr
    exact ⟨RenOk.nil, fun _ _ _ _ _ _ k v hm => (List.not_mem_nil hm).elim⟩
  | (s, own) :: ss, S, R, fz, l, hr => by
    obtain ⟨v, l1, h1, h2, _⟩ := run_rd hr
    split at h2
    · rename_i tv
      obtain ⟨hb, h3⟩ := run_chk h2
      obtain ⟨⟨tv', R1, fz1⟩, l3, l4, h4, h5, _⟩ := run_bind h3
      obtain ⟨⟨S2, R2, fz2⟩, l5, l6, h6, h7, _⟩ := run_bind h5
      cases run_ret h7
      refine ⟨(keepTV_ok (g' := g') (D' := D') (ok' := ok') h h4).1.app (keepSlots_ok h h6).1, fun fz' hz hk hf hh hB k v hm => ?_⟩
      rcases List.mem_cons.1 hm with e | hm
      · injection e with e1 e2
        subst e1
        subst e2
        obtain ⟨tv0, e, ht⟩ := h.tmps s _ h1
        injection e with e
        subst e
        refine ⟨s, tv', rfl, rfl, (keepTV_ok h h4).2 fz' _ (fun r hr => hz r (List.mem_append.2 (.inl hr))) hk hf.left hh.left (fun b hb' => hB b ?_) ht⟩
        exact List.all_eq_true.1 hb b hb'
      · exact (keepSlots_ok h h6).2 fz' (fun r hr => hz r (List.mem_append.2 (.inr hr))) hk hf.right hh.right hB k v hm
    · exact (run_fail h2).elim
theorem keepBox_ok (h : Rel F g st a w) {b : Nat} {own : Bool} {t : Ty} {x : t.den} {m : Mk} {v : Val} {R : Ren} {fz l : List Nat} (hb : BoxR g (dom st) w (F.ok g st) b t x m) (hr : (keepBox b own t x m).run st = some ((v, R, fz), l)) :
    RenOk st R ∧ ∀ (fz' : List Nat), (∀ r ∈ fz, r ∈ fz') → Keeps F g g' st D' w ok' fz' → Fits g g' R → Has D' R → ∃ t x m, v = .box t x m ∧ BoxR g' D' w ok' b t x m := by
  obtain ⟨ht, cs, ty, hh, hv⟩ := hb
  unfold keepBox at hr
  split at hr
  · obtain ⟨⟨m', R', j'⟩, l1, l2, h1, h2, _⟩ := run_bind hr
    cases run_ret h2
    refine ⟨(moveP_ok (g := g) (g' := g') (D := dom st) (D' := D') (w := w) (ok := fun _ => True) (cs := []) h1).1, fun fz' hz hk hf hh' => ⟨t, x, m', rfl, by rw [hk.τ]; exact ht, cs, ty, by rw [hk.β]; exact hh, (moveP_ok h1).2 hf hh' (VR_ok hk.ok hv)⟩⟩
  · obtain ⟨y, l1, l2, h1, h2, _⟩ := run_bind hr
    cases run_ret h2
    exact ⟨RenOk.nil, fun fz' hz hk hf hh' => ⟨t, y, .no, rfl, by rw [hk.τ]; exact ht, cs, ty, by rw [hk.β]; exact hh, full_keeps h h1 hk hz hv⟩⟩
theorem keepBoxes_ok (h : Rel F g st a w) : ∀ {bs : List (Nat × Bool)} {S : St} {R : Ren} {fz l : List Nat}, (keepBoxes bs).run st = some ((S, R, fz), l) →
    RenOk st R ∧ (∀ b, hasBox bs b = true → ∃ v, (kB b, v) ∈ S) ∧ (∀ k v, (k, v) ∈ S → ∃ b, k = kB b ∧ Alive st (kB b)) ∧ ∀ (fz' : List Nat), (∀ r ∈ fz, r ∈ fz') → Keeps F g g' st D' w ok' fz' → Fits g g' R → Has D' R → ∀ k v, (k, v) ∈ S → ∃ b t x m, k = kB b ∧ v = some (.box t x m) ∧ BoxR g' D' w ok' b t x m
  | [], S, R, fz, l, hr => by
    cases run_ret hr
    exact ⟨RenOk.nil, fun b hb => by simp [hasBox] at hb, fun k v hm => (List.not_mem_nil hm).elim, fun _ _ _ _ _ k v hm => (List.not_mem_nil hm).elim⟩
  | (b, own) :: bs, S, R, fz, l, hr => by
    obtain ⟨v, l1, h1, h2, _⟩ := run_rd hr
    split at h2
    · rename_i t x m
      obtain ⟨⟨v', R1, fz1⟩, l3, l4, h4, h5, _⟩ := run_bind h2
      obtain ⟨⟨S2, R2, fz2⟩, l5, l6, h6, h7, _⟩ := run_bind h5
      cases run_ret h7
      obtain ⟨t0, x0, m0, e, hb⟩ := h.boxes b _ h1
      injection e with e1 e2 e3
      subst e1
      cases e2
      cases e3
      obtain ⟨i1, i2, i3, i4⟩ := keepBoxes_ok h h6
      refine ⟨(keepBox_ok (g' := g') (D' := D') (ok' := ok') h hb h4).1.app i1, ?_, ?_, ?_⟩
      · intro b' hb'
        unfold hasBox at hb'
        rw [List.any_cons, Bool.or_eq_true] at hb'
        rcases hb' with e | hb'
        · rw [← Nat.eq_of_beq_eq_true e]
          exact ⟨_, List.mem_cons_self ..⟩
        · obtain ⟨v, hv⟩ := i2 b' hb'
          exact ⟨v, List.mem_cons_of_mem _ hv⟩
      · intro k v hm
        rcases List.mem_cons.1 hm with e | hm
        · injection e with e1 e2
          exact ⟨b, e1, _, h1⟩
        · exact i3 k v hm
      · intro fz' hz hk hf hh k v hm
        rcases List.mem_cons.1 hm with e | hm
        · injection e with e1 e2
          obtain ⟨t', x', m', e3, hb'⟩ := (keepBox_ok h hb h4).2 fz' (fun r hr => hz r (List.mem_append.2 (.inl hr))) hk hf.left hh.left
          exact ⟨b, t', x', m', e1, by rw [e2, e3], hb'⟩
        · exact i4 fz' (fun r hr => hz r (List.mem_append.2 (.inr hr))) hk hf.right hh.right k v hm
    · exact (run_fail h2).elim
def findR : Ren → Nat → Option (Option Nat × Val)
  | [], _ => none
  | (q, o, v) :: R, k => match Nat.beq q k with
    | true => some (o, v)
    | false => findR R k
theorem mem_news {R : Ren} {q : Nat} {o : Option Nat} {v : Val} (h : (q, o, v) ∈ R) : q ∈ news R := by
  induction R with
  | nil => cases h
  | cons p R ih =>
    obtain ⟨q', o', v'⟩ := p
    rcases List.mem_cons.1 h with e | h
    · injection e with e1 e2
      subst e1
      exact List.mem_cons_self ..
    · exact List.mem_cons_of_mem _ (ih h)
theorem mem_olds {R : Ren} {q r : Nat} {v : Val} (h : (q, some r, v) ∈ R) : r ∈ olds R := by
  induction R with
  | nil => cases h
  | cons p R ih =>
    obtain ⟨q', o', v'⟩ := p
    rcases List.mem_cons.1 h with e | h2
    · injection e with e1 e2
      injection e2 with e2 e3
      subst e2
      exact List.mem_cons_self ..
    · cases o' with
      | none => exact ih h2
      | some r' => exact List.mem_cons_of_mem _ (ih h2)
theorem findR_of {R : Ren} (hn : nodup (news R) = true) {q : Nat} {o : Option Nat} {v : Val} (h : (q, o, v) ∈ R) : findR R q = some (o, v) := by
  induction R with
  | nil => cases h
  | cons p R ih =>
    obtain ⟨q', o', v'⟩ := p
    simp only [news, nodup, Bool.and_eq_true, Bool.not_eq_true'] at hn
    unfold findR
    rcases List.mem_cons.1 h with e | h
    · injection e with e1 e2
      injection e2 with e2 e3
      subst e1
      subst e2
      subst e3
      rw [Nat.beq_refl]
    · have hne : q' ≠ q := by
        intro e
        subst e
        have := mem_news h
        simp [this] at hn
      rw [nbeq_ne hne]
      exact ih hn.2 h
theorem olds_inj {R : Ren} (hn : nodup (olds R) = true) {q q' r : Nat} {v v' : Val} (h : (q, some r, v) ∈ R) (h' : (q', some r, v') ∈ R) : q = q' := by
  induction R with
  | nil => cases h
  | cons p R ih =>
    obtain ⟨q0, o0, v0⟩ := p
    cases o0 with
    | none =>
      rcases List.mem_cons.1 h with e | h2
      · cases e
      · rcases List.mem_cons.1 h' with e | h2'
        · cases e
        · exact ih hn h2 h2'
    | some r0 =>
      simp only [olds, nodup, Bool.and_eq_true, Bool.not_eq_true'] at hn
      rcases List.mem_cons.1 h with e | h2 <;> rcases List.mem_cons.1 h' with e' | h2'
      · injection e with e1 e2
        injection e' with e3 e4
        rw [e1, e3]
      · injection e with e1 e2
        injection e2 with e2 e3
        injection e2 with e2
        subst e2
        have := mem_olds h2'
        simp [this] at hn
      · injection e' with e1 e2
        injection e2 with e2 e3
        injection e2 with e2
        subst e2
        have := mem_olds h2
        simp [this] at hn
      · exact ih hn.2 h2 h2'
theorem renW_mem {R : Ren} {k : Nat} {u : Option Val} (h : (k, u) ∈ renW R) : ∃ q o v, (q, o, v) ∈ R ∧ k = kR q ∧ u = some v := by
  induction R with
  | nil => cases h
  | cons p R ih =>
    obtain ⟨q', o', v'⟩ := p
    rcases List.mem_cons.1 h with e | h
    · injection e with e1 e2
      exact ⟨q', o', v', List.mem_cons_self .., e1, e2⟩
    · obtain ⟨q, o, v, h1, h2⟩ := ih h
      exact ⟨q, o, v, List.mem_cons_of_mem _ h1, h2⟩
theorem mem_renW {R : Ren} {q : Nat} {o : Option Nat} {v : Val} (h : (q, o, v) ∈ R) : (kR q, some v) ∈ renW R := by
  induction R with
  | nil => cases h
  | cons p R ih =>
    obtain ⟨q', o', v'⟩ := p
    rcases List.mem_cons.1 h with e | h
    · injection e with e1 e2
      injection e2 with e2 e3
      subst e1
      subst e3
      exact List.mem_cons_self ..
    · exact List.mem_cons_of_mem _ (ih h)
def tyOf : Val → Ty
  | .row _ t _ => t
  | _ => .bool
def ghRen (g : Gh) (R : Ren) : Gh := { g with
  ρ := fun q => match findR R q with
    | some (some r, _) => g.ρ r
    | some (none, _) => .slice none 0 0
    | none => .slice none 0 0
  σ := fun q => match findR R q with
    | some (some r, _) => g.σ r
    | some (none, v) => tyOf v
    | none => .bool
  S := fun q => match findR R q with
    | some (some r, _) => g.S r
    | _ => fun _ => False }
theorem ghRen_fits {g : Gh} {R : Ren} (hn : nodup (news R) = true) : Fits g (ghRen g R) R := by
  intro q o v hm
  have := findR_of hn hm
  cases o with
  | some r => simp [ghRen, this]
  | none =>
    simp only [ghRen, this]
    refine ⟨trivial, fun e t he => ?_, trivial⟩
    rw [he]
    rfl
theorem norm_ok {kp : Keep} {st' : St} {l : List Nat} (h : Rel F g st a w) (hr : (norm kp).run st = some (st', l)) : ∃ g', Rel F g' st' a w := by
  unfold norm at hr
  obtain ⟨⟨S1, R1, z1⟩, l1, l2, h1, h2, _⟩ := run_bind hr
  obtain ⟨⟨S2, R2, z2⟩, l3, l4, h3, h4, _⟩ := run_bind h2
  obtain ⟨hc, h5⟩ := run_chk h4
  cases run_ret h5
  simp only [Bool.and_eq_true, Bool.not_eq_true'] at hc
  obtain ⟨⟨hn, ho⟩, hz⟩ := hc
  have hf := ghRen_fits (g := g) hn
  generalize hg' : ghRen g (R1 ++ R2) = g' at hf
  have hD : Has (dom (S1 ++ S2 ++ renW (R1 ++ R2))) (R1 ++ R2) := fun q o v hm => dom_mem.2 ⟨_, List.mem_append.2 (.inr (mem_renW hm))⟩
  obtain ⟨b1, b2, b3, b4⟩ := keepBoxes_ok (g' := g') (D' := dom (S1 ++ S2 ++ renW (R1 ++ R2))) (ok' := F.ok g' (S1 ++ S2 ++ renW (R1 ++ R2))) h h3
  obtain ⟨s1, s2⟩ := keepSlots_ok (g' := g') (D' := dom (S1 ++ S2 ++ renW (R1 ++ R2))) (ok' := F.ok g' (S1 ++ S2 ++ renW (R1 ++ R2))) h h1
  have hR := s1.app b1
  have hβ : g'.β = g.β := by rw [← hg']; rfl
  have hτ : g'.τ = g.τ := by rw [← hg']; rfl
  -- what may be written is less
  have hslot : ∀ k v, (k, v) ∈ S1 → ∃ i, k = kT i := by
    have key : ∀ {ss : List (Nat × Bool)} {S : St} {R : Ren} {fz l : List Nat}, (keepSlots kp.boxes ss).run st = some ((S, R, fz), l) → ∀ k v, (k, v) ∈ S → ∃ i, k = kT i := by
      intro ss
      induction ss with
      | nil => intro S R fz l hr k v hm; cases run_ret hr; cases hm
      | cons p ss ih =>
        obtain ⟨s, own⟩ := p
        intro S R fz l hr k v hm
        obtain ⟨u, m1, q1, q2, _⟩ := run_rd hr
        split at q2
        · obtain ⟨_, q3⟩ := run_chk q2
          obtain ⟨⟨tv', R1, fz1⟩, m3, m4, q4, q5, _⟩ := run_bind q3
          obtain ⟨⟨S2, R2, fz2⟩, m5, m6, q6, q7, _⟩ := run_bind q5
          cases run_ret q7
          rcases List.mem_cons.1 hm with e | hm
          · injection e with e1 e2
            exact ⟨s, e1⟩
          · exact ih q6 k v hm
        · exact (run_fail q2).elim
    exact key h1
  have hAB : ∀ b, Alive (S1 ++ S2 ++ renW (R1 ++ R2)) (kB b) → Alive st (kB b) := by
    rintro b ⟨v, hv⟩
    rcases List.mem_append.1 (get_mem hv) with hm | hm
    · rcases List.mem_append.1 hm with hm | hm
      · obtain ⟨i, e⟩ := hslot _ _ hm
        exact (kT_kB _ _ e.symm).elim
      · obtain ⟨b', e, ha⟩ := b3 _ _ hm
        rw [kB_inj e]; exact ha
    · obtain ⟨q, o, v, _, e, _⟩ := renW_mem hm
      exact (kB_kR _ _ e).elim
  have hAR : ∀ q v, get (S1 ++ S2 ++ renW (R1 ++ R2)) (kR q) = some v → ∃ o, (q, o, v) ∈ R1 ++ R2 := by
    intro q v hv
    rcases List.mem_append.1 (get_mem hv) with hm | hm
    · rcases List.mem_append.1 hm with hm | hm
      · obtain ⟨i, e⟩ := hslot _ _ hm
        exact (kT_kR _ _ e.symm).elim
      · obtain ⟨b', e, ha⟩ := b3 _ _ hm
        exact (kB_kR _ _ e.symm).elim
    · obtain ⟨q', o, v', hm, e, e2⟩ := renW_mem hm
      injection e2 with e2
      rw [kR_inj e, e2]
      exact ⟨o, hm⟩
  have hDR : ∀ q, dom (S1 ++ S2 ++ renW (R1 ++ R2)) (kR q) = true → ∃ o v, (q, o, v) ∈ R1 ++ R2 := by
    intro q hd
    obtain ⟨v, hm⟩ := dom_mem.1 hd
    rcases List.mem_append.1 hm with hm | hm
    · rcases List.mem_append.1 hm with hm | hm
      · obtain ⟨i, e⟩ := hslot _ _ hm
        exact (kT_kR _ _ e.symm).elim
      · obtain ⟨b', e, ha⟩ := b3 _ _ hm
        exact (kB_kR _ _ e.symm).elim
    · obtain ⟨q', o, v', hm, e, e2⟩ := renW_mem hm
      rw [kR_inj e]
      exact ⟨o, v', hm⟩
  have hSk : ∀ q k, Alive (S1 ++ S2 ++ renW (R1 ++ R2)) (kR q) → g'.S q k → ∃ r v, (q, some r, v) ∈ R1 ++ R2 ∧ Alive st (kR r) ∧ g.S r k := by
    rintro q k ⟨v, hv⟩ hk
    obtain ⟨o, hm⟩ := hAR q v hv
    have hfit := hf q o v hm
    have hro := hR q o v hm
    cases o with
    | none => simp only at hfit; rw [hfit.2.2] at hk; exact hk.elim
    | some r =>
      simp only at hfit hro
      rw [hfit.2.2] at hk
      exact ⟨r, v, hm, ⟨v, hro⟩, hk⟩
  have hMut : ∀ k, Mut g' (S1 ++ S2 ++ renW (R1 ++ R2)) k → Mut g st k := by
    rintro k (⟨b, hb, e⟩ | ⟨q, hq, e⟩)
    · exact .inl ⟨b, hAB b hb, by rw [← hβ]; exact e⟩
    · obtain ⟨r, v, _, ha, hk⟩ := hSk q k hq e
      exact .inr ⟨r, ha, hk⟩
  have hfz : ∀ r, (r ∈ z1 ++ z2) → r ∉ olds (R1 ++ R2) := fun r hr => meets_not hz r hr
  have hfa : ∀ r ∈ z1 ++ z2, Alive st (kR r) := by
    have key1 : ∀ {ss : List (Nat × Bool)} {S : St} {R : Ren} {fz l : List Nat}, (keepSlots kp.boxes ss).run st = some ((S, R, fz), l) → ∀ r ∈ fz, Alive st (kR r) := by
      intro ss
      induction ss with
      | nil => intro S R fz l hr r hm; cases run_ret hr; cases hm
      | cons p ss ih =>
        obtain ⟨s, own⟩ := p
        intro S R fz l hr r hm
        obtain ⟨u, m1, q1, q2, _⟩ := run_rd hr
        split at q2
        · obtain ⟨_, q3⟩ := run_chk q2
          obtain ⟨⟨tv', R1, fz1⟩, m3, m4, q4, q5, _⟩ := run_bind q3
          obtain ⟨⟨S2, R2, fz2⟩, m5, m6, q6, q7, _⟩ := run_bind q5
          cases run_ret q7
          rcases List.mem_append.1 hm with hm | hm
          · unfold keepTV at q4
            split at q4
            · split at q4
              · obtain ⟨⟨m', R', j'⟩, l1, l2, h1, h2, _⟩ := run_bind q4
                cases run_ret h2
                cases hm
              · obtain ⟨y, l1, l2, h1, h2, _⟩ := run_bind q4
                cases run_ret h2
                exact full_alive h1 r hm
            · cases run_ret q4; cases hm
            · cases run_ret q4; cases hm
            · obtain ⟨_, q4⟩ := run_chk q4
              cases run_ret q4; cases hm
            · exact (run_fail q4).elim
          · exact ih q6 r hm
        · exact (run_fail q2).elim
    have key2 : ∀ {bs : List (Nat × Bool)} {S : St} {R : Ren} {fz l : List Nat}, (keepBoxes bs).run st = some ((S, R, fz), l) → ∀ r ∈ fz, Alive st (kR r) := by
      intro bs
      induction bs with
      | nil => intro S R fz l hr r hm; cases run_ret hr; cases hm
      | cons p bs ih =>
        obtain ⟨s, own⟩ := p
        intro S R fz l hr r hm
        obtain ⟨u, m1, q1, q2, _⟩ := run_rd hr
        split at q2
        · obtain ⟨⟨tv', R1, fz1⟩, m3, m4, q4, q5, _⟩ := run_bind q2
          obtain ⟨⟨S2, R2, fz2⟩, m5, m6, q6, q7, _⟩ := run_bind q5
          cases run_ret q7
          rcases List.mem_append.1 hm with hm | hm
          · unfold keepBox at q4
            split at q4
            · obtain ⟨⟨m', R', j'⟩, l1, l2, h1, h2, _⟩ := run_bind q4
              cases run_ret h2
              cases hm
            · obtain ⟨y, l1, l2, h1, h2, _⟩ := run_bind q4
              cases run_ret h2
              exact full_alive h1 r hm
          · exact ih q6 r hm
        · exact (run_fail q2).elim
    intro r hr
    rcases List.mem_append.1 hr with hr | hr
    · exact key1 h1 r hr
    · exact key2 h3 r hr
  have hkeeps : Keeps F g g' st (dom (S1 ++ S2 ++ renW (R1 ++ R2))) w (F.ok g' (S1 ++ S2 ++ renW (R1 ++ R2))) (z1 ++ z2) := by
    refine ⟨hβ, hτ, fun k hk _ => ⟨hk.1, fun hm => hk.2 (hMut k hm)⟩, fun r hr k hk hlt => ⟨?_, ?_⟩⟩
    · rcases (h.newR r (hfa r hr) k hk).1 with h6 | h6
      · exact .inr (.inl h6)
      · exact .inr (.inr h6)
    · rintro (⟨b, hb, e⟩ | ⟨q, hq, e⟩)
      · refine h.dBR b r (hAB b hb) (hfa r hr) ?_
        rw [← hβ, e]; exact hk
      · obtain ⟨r', v, hm, ha, hk'⟩ := hSk q k hq e
        have hne : r ≠ r' := fun e => hfz r hr (by rw [e]; exact mem_olds hm)
        exact h.dRR r r' (hfa r hr) ha hne k hk hk'
  have hslots := s2 (z1 ++ z2) (fun r hr => List.mem_append.2 (.inl hr)) hkeeps hf.left hD.left (fun b hb => by
    obtain ⟨v, hv⟩ := b2 b hb
    exact dom_mem.2 ⟨v, List.mem_append.2 (.inl (List.mem_append.2 (.inr hv)))⟩)
  have hboxes := b4 (z1 ++ z2) (fun r hr => List.mem_append.2 (.inr hr)) hkeeps hf.right hD.right
  refine ⟨g', h.size, h.keep, h.defers, h.os, h.tape, h.output, h.grow, h.frame, ?_, ?_, ?_, ?_, ?_, ?_, ?_, ?_, ?_⟩
  · intro i v hv
    rcases List.mem_append.1 (get_mem hv) with hm | hm
    · rcases List.mem_append.1 hm with hm | hm
      · obtain ⟨i', tv, e, e2, ht⟩ := hslots _ _ hm
        injection e2 with e2
        have := kT_inj e
        subst this
        exact ⟨tv, e2, ht⟩
      · obtain ⟨b', e, ha⟩ := b3 _ _ hm
        exact (kT_kB _ _ e).elim
    · obtain ⟨q, o, v, _, e, _⟩ := renW_mem hm
      exact (kT_kR _ _ e).elim
  · intro b v hv
    rcases List.mem_append.1 (get_mem hv) with hm | hm
    · rcases List.mem_append.1 hm with hm | hm
      · obtain ⟨i, e⟩ := hslot _ _ hm
        exact (kT_kB _ _ e.symm).elim
      · obtain ⟨b', t, x, m, e, e2, hb⟩ := hboxes _ _ hm
        injection e2 with e2
        have := kB_inj e
        subst this
        exact ⟨t, x, m, e2, hb⟩
    · obtain ⟨q, o, v, _, e, _⟩ := renW_mem hm
      exact (kB_kR _ _ e).elim
  · intro q v hv
    obtain ⟨o, hm⟩ := hAR q v hv
    have hfit := hf q o v hm
    have hro := hR q o v hm
    cases o with
    | some r =>
      simp only at hfit hro
      obtain ⟨e, t, xs, e1, e2, e3⟩ := h.rows r v hro
      refine ⟨e, t, xs, e1, hfit.2.1.trans e2, ?_⟩
      rw [hfit.1, hfit.2.2]
      exact e3
    | none =>
      simp only at hfit hro
      obtain ⟨e, t, e1⟩ := hro
      refine ⟨e, t, [], e1, hfit.2.1 e t e1, ?_⟩
      rw [hfit.1, hfit.2.2]
      exact Kd.S_nil _ _ _ _ _
  · intro q hd
    obtain ⟨o, v, hm⟩ := hDR q hd
    have hfit := hf q o v hm
    have hro := hR q o v hm
    cases o with
    | some r =>
      simp only at hfit hro
      rw [hfit.1]
      exact h.isl r (dom_of_get hro)
    | none =>
      simp only at hfit
      rw [hfit.1]
      rfl
  · intro b hb
    rw [hβ]
    exact h.newB b (hAB b hb)
  · intro q hq k hk
    obtain ⟨r, v, _, ha, hk'⟩ := hSk q k hq hk
    exact h.newR r ha k hk'
  · intro b b' hb hb' e
    rw [hβ] at e
    exact h.dBB b b' (hAB b hb) (hAB b' hb') e
  · intro b q hb hq hk
    rw [hβ] at hk
    obtain ⟨r, v, _, ha, hk'⟩ := hSk q _ hq hk
    exact h.dBR b r (hAB b hb) ha hk'
  · intro q q' hq hq' hne k hk hk'
    obtain ⟨r, v, hm, ha, h6⟩ := hSk q k hq hk
    obtain ⟨r', v', hm', ha', h6'⟩ := hSk q' k hq' hk'
    refine h.dRR r r' ha ha' (fun e => ?_) k h6 h6'
    subst e
    exact hne (olds_inj ho hm hm')
end
end Go.Proofs.Ythgbcbnmdioknaa.Ref

namespace Go.Proofs.Ythgbcbnmdioknaa.Ref
open Go.RowKit Go.Proofs.YthgbcbnmdioknaaW.PrintWords Go.Proofs.YthgbcbnmdioknaaW.PrintLast

def codeOk (p n : Nat) : Code → Bool
  | .region _ ops _ => ops.toList.all (dstLt p n)
  | .seq a b => codeOk p n a && codeOk p n b
  | .cond _ a b => codeOk p n a && codeOk p n b
  | .block _ c => codeOk p n c
  | .loop c => codeOk p n c
  | _ => true

section
variable {P : Program} {T : Tab} {G : Sigs} {O : Orac} {A : Ann} {F : Fx} {g : Gh} {st st' : St} {a : Act} {w : World} {r : Ret} {n : Nat}
theorem run_ok (hT : TabOk P T) (hO : OracOk P G O) (hm : P.follows .mixedOrders = true) : ∀ (c : Code) (lp : Nat) (nrm : KSt) (brk : Nat → KSt) (ret : KSt) (Q : Exit → Act → World → Prop) (g : Gh) (st : St) (a : Act) (w : World),
    codeOk F.np F.n c = true → run T G O A n c lp nrm brk ret st = some r → Rel F g st a w → (∀ g st a w, nrm st = some r → Rel F g st a w → Q .normal a w) → (∀ id g st a w, brk id st = some r → Rel F g st a w → Q (.exit id) a w) →
    (∀ g st a w, ret st = some r → Rel F g st a w → Q .ret a w) → c.wp P Q a w := by
  intro c
  induction c with
  | skip =>
    intro lp nrm brk ret Q g st a w hc h hr hN hB hR
    exact wp_skip (hN g st a w h hr)
  | region id ops draw =>
    intro lp nrm brk ret Q g st a w hc h hr hN hB hR
    cases draw with
    | false => exact wp_region_list (runOps_ok hT hO rfl hN ops.toList g st a w hc h hr)
    | true =>
      unfold run at h
      cases hd : drawOk ops (bMasks (rtab .any ops).2 []) with
      | false => rw [hd] at h; cases h
      | true =>
        rw [hd] at h
        have hD0 : Drawn P T G ops.toList (bMasks (rtab .any ops).2 []) st [] := ⟨fun i o p _ hp => by simp at hp, fun i j p q _ hp => by simp at hp⟩
        obtain ⟨H, st', hD, hlen, hs, hk⟩ := runDraw_ok hO ops.toList [] [] st rfl (Nat.zero_le _) (Same.refl _) hD0 (fun i p hp => by simp at hp) h
        exact draw_ok hT hm hD (by rw [hlen, Array.length_toList]) hd hc hr (fun g' a' w' hr' => hN g' st' a' w' hk (hr'.same hs))
  | seq x y ihx ihy =>
    intro lp nrm brk ret Q g st a w hc h hr hN hB hR
    simp only [codeOk, Bool.and_eq_true] at hc
    refine wp_seq (ihx lp _ brk ret _ g st a w hc.1 h hr ?_ hB hR)
    intro g' st' a' w' h' hr'
    exact ihy lp nrm brk ret Q g' st' a' w' hc.2 h' hr' hN hB hR
  | cond c x y ihx ihy =>
    intro lp nrm brk ret Q g st a w hc h hr hN hB hR
    simp only [codeOk, Bool.and_eq_true] at hc
    unfold run at h
    obtain ⟨v, l, h1, L, h2, h3⟩ := runK_some h
    split at h3
    · rename_i b m
      have hv := TV_bool (ev_TV hr h1)
      refine wp_cond hv ?_
      cases b with
      | true => exact ihx lp nrm brk ret Q g st a w hc.1 h3 hr hN hB hR
      | false => exact ihy lp nrm brk ret Q g st a w hc.2 h3 hr hN hB hR
    · cases h3
  | block id c ih =>
    intro lp nrm brk ret Q g st a w hc h hr hN hB hR
    refine wp_block (ih id nrm _ ret _ g st a w hc h hr hN ?_ hR)
    intro id' g' st' a' w' h' hr'
    show if id' = id then Q .normal a' w' else Q (.exit id') a' w'
    by_cases e : id' = id
    · subst e
      rw [if_pos rfl]
      rw [Nat.beq_refl] at h'
      exact hN g' st' a' w' h' hr'
    · rw [if_neg e]
      rw [nbeq_ne e] at h'
      exact hB id' g' st' a' w' h' hr'
  | loop c ih =>
    intro lp nrm brk ret Q g st a w hc h hr hN hB hR
    unfold run at h
    obtain ⟨st1, l1, h1, L1, h2, h3⟩ := runK_some h
    obtain ⟨g1, hr1⟩ := norm_ok hr h1
    generalize hLF : (fun m st => Nat.rec (motive := fun _ => KSt) (fun _ => none) (fun _ ih st => run T G O A n c lp (fun s => (norm (A lp)).runK s [] fun s' _ => ih s') brk ret st) m st : Nat → KSt) = LF at h3
    have hS : ∀ m st, LF (m + 1) st = run T G O A n c lp (fun s => (norm (A lp)).runK s [] fun s' _ => LF m s') brk ret st := by
      intro m st
      rw [← hLF]
    have h0 : ∀ st, LF 0 st = none := by
      intro st
      rw [← hLF]
      rfl
    have h3' : LF n st1 = some r := by
      rw [← hLF]; exact h3
    refine wp_loop_ghost (fun m a w => ∃ g st, LF m st = some r ∧ Rel F g st a w) n ⟨g1, st1, h3', hr1⟩ ?_
    rintro m a w ⟨g, st, hl, hr⟩
    cases m with
    | zero => rw [h0] at hl; cases hl
    | succ m =>
      rw [hS] at hl
      refine ih lp _ brk ret _ g st a w hc hl hr ?_ hB hR
      intro g' st' a' w' h' hr'
      obtain ⟨st2, l2, h4, L2, h5, h6⟩ := runK_some h'
      obtain ⟨g2, hr2⟩ := norm_ok hr' h4
      exact ⟨m, Nat.lt_succ_self m, g2, st2, h6, hr2⟩
  | exit id =>
    intro lp nrm brk ret Q g st a w hc h hr hN hB hR
    exact wp_exit (hB id g st a w h hr)
  | ret =>
    intro lp nrm brk ret Q g st a w hc h hr hN hB hR
    exact wp_ret (hR g st a w h hr)
  | _ =>
    intro lp nrm brk ret Q g st a w hc h hr hN hB hR
    cases h

theorem retV_ok {gc : Gh} {ok' : Nat → Prop} (h : Rel F g st a w) : ∀ (t : Ty) {x y : t.den} {m sm : Mk} {R : Ren} {fz l : List Nat} {cs : List Value}, (retV t x m sm).run st = some ((y, R, fz), l) →
    RenOk st R ∧ (∀ r ∈ fz, Alive st (kR r)) ∧ (∀ j ∈ idsT t sm, ∃ o v, (j, o, v) ∈ R) ∧ ∀ (fz' : List Nat), (∀ r ∈ fz, r ∈ fz') → (∀ k, F.ok g st k → k < w.heap.size → ok' k) → (∀ r ∈ fz', ∀ k, g.S r k → k < w.heap.size → ok' k) → Fits g gc R → VR g (dom st) w (F.ok g st) t x m cs →
      VR gc (fun _ => true) w ok' t y sm cs ∧ OwnR gc w t y sm := by
  intro t
  induction t with
  | slice e t _ =>
    intro x y m sm R fz l cs hr
    cases sm with
    | own j =>
      cases m with
      | own r =>
        obtain ⟨v, l1, h1, h2, _⟩ := run_rd hr
        split at h2
        · rename_i e' t' xs
          split at h2
          · rename_i z hz
            obtain ⟨q1, q2⟩ := cast_some hz
            cases q1
            cases q2
            cases run_ret h2
            refine ⟨?_, fun r hr => (by cases hr), fun j' hj => ?_, fun fz' hz hk hf hfit hv => ?_⟩
            · intro q o v hm
              have := List.mem_singleton.1 hm
              injection this with a1 a2
              injection a2 with a2 a3
              subst a2
              subst a3
              exact h1
            · have := List.mem_singleton.1 hj
              subst this
              exact ⟨_, _, List.mem_singleton.2 rfl⟩
            · simp only [VR] at hv ⊢
              have hft := hfit j (some r) _ (List.mem_singleton.2 rfl)
              simp only at hft
              obtain ⟨hs, hrow⟩ := h.rowS h1
              refine ⟨⟨by rw [hft.1]; exact hv.1, trivial⟩, hft.2.1.trans hs, ?_⟩
              rw [hft.1, hft.2.2]
              exact hrow
          · exact (run_fail h2).elim
        · exact (run_fail h2).elim
      | nil =>
        cases run_ret hr
        refine ⟨?_, fun r hr => (by cases hr), fun j' hj => ?_, fun fz' hz hk hf hfit hv => ?_⟩
        · intro q o v hm
          have := List.mem_singleton.1 hm
          injection this with a1 a2
          injection a2 with a2 a3
          subst a2
          subst a3
          exact ⟨e, t, rfl⟩
        · have := List.mem_singleton.1 hj
          subst this
          exact ⟨_, _, List.mem_singleton.2 rfl⟩
        · simp only [VR] at hv ⊢
          have hft := hfit j none _ (List.mem_singleton.2 rfl)
          simp only at hft
          refine ⟨⟨by rw [hft.1]; exact hv, trivial⟩, hft.2.1 e t rfl, ?_⟩
          rw [hft.1, hft.2.2]
          exact Kd.S_nil _ _ _ _ _
      | no => exact (run_fail hr).elim
      | pair p q => exact (run_fail hr).elim
    | no =>
      have hr' : ((full (.slice e t) x m).bind fun y => Pg.ret (y, ([] : Ren), idsT (.slice e t) m)).run st = some ((y, R, fz), l) := by
        cases m <;> exact hr
      exact plain h hr'
    | nil => exact (run_fail (by cases m <;> exact hr)).elim
    | pair p q => exact (run_fail (by cases m <;> exact hr)).elim
  | pair p q ihp ihq =>
    intro x y m sm R fz l cs hr
    cases sm with
    | pair sp sq =>
      cases m with
      | pair m n =>
        obtain ⟨⟨y1, R1, z1⟩, l1, l2, h1, h2, _⟩ := run_bind hr
        obtain ⟨⟨y2, R2, z2⟩, l3, l4, h3, h4, _⟩ := run_bind h2
        cases run_ret h4
        obtain ⟨a1, a2, a3, _⟩ := ihp (cs := []) h1
        obtain ⟨b1, b2, b3, _⟩ := ihq (cs := []) h3
        refine ⟨a1.app b1, fun r hr => (List.mem_append.1 hr).elim (a2 r) (b2 r), fun j hj => ?_, fun fz' hz hk hf hfit hv => ?_⟩
        · rcases List.mem_append.1 hj with hj | hj
          · obtain ⟨o, v, hm⟩ := a3 j hj
            exact ⟨o, v, List.mem_append.2 (.inl hm)⟩
          · obtain ⟨o, v, hm⟩ := b3 j hj
            exact ⟨o, v, List.mem_append.2 (.inr hm)⟩
        · simp only [VR] at hv ⊢
          obtain ⟨c0, c1, e, hv0, hv1⟩ := hv
          obtain ⟨p1, p2⟩ := (ihp h1).2.2.2 fz' (fun r hr => hz r (List.mem_append.2 (.inl hr))) hk hf hfit.left hv0
          obtain ⟨q1, q2⟩ := (ihq h3).2.2.2 fz' (fun r hr => hz r (List.mem_append.2 (.inr hr))) hk hf hfit.right hv1
          exact ⟨⟨c0, c1, e, p1, q1⟩, p2, q2⟩
      | no => exact (run_fail hr).elim
      | nil => exact (run_fail hr).elim
      | own r => exact (run_fail hr).elim
    | no =>
      have hr' : ((full (.pair p q) x m).bind fun y => Pg.ret (y, ([] : Ren), idsT (.pair p q) m)).run st = some ((y, R, fz), l) := by
        cases m <;> exact hr
      exact plain h hr'
    | nil => exact (run_fail (by cases m <;> exact hr)).elim
    | own j => exact (run_fail (by cases m <;> exact hr)).elim
  | int k =>
    intro x y m sm R fz l cs hr
    cases sm with
    | no => exact plain h hr
    | _ => exact (run_fail hr).elim
  | bool =>
    intro x y m sm R fz l cs hr
    cases sm with
    | no => exact plain h hr
    | _ => exact (run_fail hr).elim
  | str =>
    intro x y m sm R fz l cs hr
    cases sm with
    | no => exact plain h hr
    | _ => exact (run_fail hr).elim
  where
  plain {gc : Gh} {ok' : Nat → Prop} (h : Rel F g st a w) {t : Ty} {x y : t.den} {m : Mk} {R : Ren} {fz l : List Nat} {cs : List Value} (hr : ((full t x m).bind fun y => Pg.ret (y, ([] : Ren), idsT t m)).run st = some ((y, R, fz), l)) :
    RenOk st R ∧ (∀ r ∈ fz, Alive st (kR r)) ∧ (∀ j ∈ idsT t .no, ∃ o v, (j, o, v) ∈ R) ∧ ∀ (fz' : List Nat), (∀ r ∈ fz, r ∈ fz') → (∀ k, F.ok g st k → k < w.heap.size → ok' k) → (∀ r ∈ fz', ∀ k, g.S r k → k < w.heap.size → ok' k) → Fits g gc R → VR g (dom st) w (F.ok g st) t x m cs →
      VR gc (fun _ => true) w ok' t y .no cs ∧ OwnR gc w t y .no := by
    obtain ⟨z, l1, l2, h1, h2, _⟩ := run_bind hr
    cases run_ret h2
    refine ⟨RenOk.nil, full_alive h1, fun j hj => (by rw [idsT_no] at hj; cases hj), fun fz' hz hk hf hfit hv => ⟨VR_no.2 (Foot.mv (full_FK h h1 hv) (fun _ _ _ => rfl) ?_), by cases t <;> trivial⟩⟩
    rintro k (h3 | ⟨r, hr, h3⟩) hlt
    · exact hk k h3 hlt
    · exact hf r (hz r hr) k h3 hlt
/-- What a result variable holds. -/
def ResVal (P : Program) (a : Act) (w : World) : ResultVar → Value → Prop
  | .tmp t, u => u = a.tmps.getD t undef
  | .cell b t, u => (do loadVar t (← asAddr (a.tmps.getD b undef)) : Sem Value).run P w = .ok u w
def ResVals (P : Program) (a : Act) (w : World) : List ResultVar → List Value → Prop
  | [], us => us = []
  | r :: rs, us => ∃ u us', us = u :: us' ∧ ResVal P a w r u ∧ ResVals P a w rs us'
theorem retTail {gc : Gh} {ok' : Nat → Prop} (h : Rel F g st a w) {s : Ty × Mk} {t0 : Ty} {x0 : t0.den} {m0 : Mk} {v : Dv} {R1 : Ren} {z1 l : List Nat} (hq : t0.beq s.1 = true) (q3 : ((retV t0 x0 m0 s.2).bind fun (y, R, l) => Pg.ret ((⟨t0, y⟩ : Dv), R, l)).run st = some ((v, R1, z1), l)) :
    RenOk st R1 ∧ (∀ r ∈ z1, Alive st (kR r)) ∧ (∀ j ∈ idsT s.1 s.2, ∃ o v, (j, o, v) ∈ R1) ∧ ∀ (fz' : List Nat) (cs : List Value), (∀ r ∈ z1, r ∈ fz') → (∀ k, F.ok g st k → k < w.heap.size → ok' k) → (∀ r ∈ fz', ∀ k, g.S r k → k < w.heap.size → ok' k) → Fits g gc R1 → VR g (dom st) w (F.ok g st) t0 x0 m0 cs →
      ∃ y : t0.den, v = ⟨t0, y⟩ ∧ t0 = s.1 ∧ VR gc (fun _ => true) w ok' t0 y s.2 cs ∧ OwnR gc w t0 y s.2 := by
  obtain ⟨⟨y, R3, z3⟩, m3, m4, q4, q5, _⟩ := run_bind q3
  cases run_ret q5
  obtain ⟨s1, s2⟩ := s
  have ht := Ty.eq_of_beq hq
  simp only at ht
  subst ht
  obtain ⟨a1, a2, a3, _⟩ := retV_ok (gc := gc) (ok' := ok') h _ (cs := []) q4
  refine ⟨a1, a2, a3, fun fz' cs hz hk hf hfit hv => ?_⟩
  obtain ⟨p1, p2⟩ := (retV_ok h _ q4).2.2.2 fz' hz hk hf hfit hv
  exact ⟨y, rfl, rfl, p1, p2⟩
theorem var_run (hT : TabOk P T) {n : Nat} {t : Ty} (ht : T.ty n = some t) {b : Addr} {cs : List Value} (hl : cs.length = t.sz) (hc : Cells w b cs) : (loadVar n b).run P w = .ok (valOf t cs) w := by
  have h1 := load_run hT ht hl hc
  unfold Instr.loadAt Instr.sureAddr at h1
  simpa using h1
theorem retAll_ok {gc : Gh} {ok' : Nat → Prop} (hT : TabOk P T) (h : Rel F g st a w) : ∀ {sg : Sig} {rs : List ResultVar} {vs : List Dv} {R : Ren} {fz l : List Nat}, (retAll T sg rs).run st = some ((vs, R, fz), l) →
    RenOk st R ∧ (∀ r ∈ fz, Alive st (kR r)) ∧ (∀ j ∈ sigIds sg, ∃ o v, (j, o, v) ∈ R) ∧ ∃ us : List Value, ResVals P a w rs us ∧ ∀ (fz' : List Nat), (∀ r ∈ fz, r ∈ fz') → (∀ k, F.ok g st k → k < w.heap.size → ok' k) → (∀ r ∈ fz', ∀ k, g.S r k → k < w.heap.size → ok' k) → Fits g gc R →
      ResR gc w ok' sg vs us
  | [], [], vs, R, fz, l, hr => by
    cases run_ret hr
    exact ⟨RenOk.nil, fun _ h => (List.not_mem_nil h).elim, fun _ h => (List.not_mem_nil h).elim, [], rfl, fun _ _ _ _ _ => rfl⟩
  | s :: ss, x :: rs, vs, R, fz, l, hr => by
    obtain ⟨⟨v, R1, z1⟩, l1, l2, h1, h2, _⟩ := run_bind hr
    obtain ⟨⟨vs', R2, z2⟩, l3, l4, h3, h4, _⟩ := run_bind h2
    cases run_ret h4
    obtain ⟨b1, b2, b3, us, e, b4⟩ := retAll_ok (gc := gc) (ok' := ok') hT h h3
    have one : ∃ (t0 : Ty) (x0 : t0.den) (m0 : Mk) (cs : List Value) (l' : List Nat), t0.beq s.1 = true ∧ ((retV t0 x0 m0 s.2).bind fun (y, R, l) => Pg.ret ((⟨t0, y⟩ : Dv), R, l)).run st = some ((v, R1, z1), l') ∧ ResVal P a w x (valOf t0 cs) ∧ VR g (dom st) w (F.ok g st) t0 x0 m0 cs := by
      cases x with
      | tmp t =>
        obtain ⟨u, m1, q1, q2, _⟩ := run_rd h1
        split at q2
        · rename_i t0 x0 m0
          obtain ⟨hq, q3⟩ := run_chk q2
          obtain ⟨tv, e1, hv⟩ := h.tmps t _ q1
          injection e1 with e1
          subst e1
          simp only [TVR] at hv
          obtain ⟨cs, e2, hv⟩ := hv
          exact ⟨t0, x0, m0, cs, m1, hq, q3, e2.symm, hv⟩
        · exact (run_fail q2).elim
      | cell c n =>
        obtain ⟨u, m1, q1, q2, _⟩ := run_rd h1
        split at q2
        · rename_i b
          obtain ⟨u', m2, q4, q5, _⟩ := run_rd q2
          split at q5
          · rename_i t0 x0 m0
            unfold retBox at q5
            split at q5
            · rename_i t' ht'
              obtain ⟨hq, q6⟩ := run_chk q5
              rw [Bool.and_eq_true] at hq
              have := Ty.eq_of_beq hq.1
              subst this
              obtain ⟨tv, e1, hv⟩ := h.tmps c _ q1
              injection e1 with e1
              subst e1
              simp only [TVR] at hv
              obtain ⟨t1, x1, m3, e2, hb, cs, ty, hh, hc⟩ := h.boxes b _ q4
              injection e2 with e2 e3 e4
              subst e2
              cases e3
              cases e4
              refine ⟨t0, x0, m0, cs, m2, hq.2, q6, ?_, hc⟩
              have h0 : offp (g.τ b) [] = 0 := by cases g.τ b <;> simp [offp]
              have hh' : w.heap[g.β b]? = some (.cells ([] ++ cs ++ []).toArray ty (0, 0)) := by rw [hh]; simp
              have := var_run hT ht' (VR_len hc) (cells_of_block (o := 0) hh' rfl)
              show (do loadVar n (← asAddr (a.tmps.getD c undef)) : Sem Value).run P w = _
              rw [hv.1, h0]
              simpa [asAddr] using this
            · exact (run_fail q5).elim
          · exact (run_fail q5).elim
        · exact (run_fail q2).elim
    obtain ⟨t0, x0, m0, cs, l', hq, q3, hval, hv⟩ := one
    obtain ⟨a1, a2, a3, a4⟩ := retTail (gc := gc) (ok' := ok') h hq q3
    refine ⟨a1.app b1, fun r hr => (List.mem_append.1 hr).elim (a2 r) (b2 r), fun j hj => ?_, valOf t0 cs :: us, ⟨_, _, rfl, hval, e⟩, fun fz' hz hk hf hfit => ?_⟩
    · obtain ⟨s1, s2⟩ := s
      rcases List.mem_append.1 hj with hj | hj
      · obtain ⟨o, v, hm⟩ := a3 j hj
        exact ⟨o, v, List.mem_append.2 (.inl hm)⟩
      · obtain ⟨o, v, hm⟩ := b3 j hj
        exact ⟨o, v, List.mem_append.2 (.inr hm)⟩
    · obtain ⟨s1, s2⟩ := s
      obtain ⟨y, e1, e2, p1, p2⟩ := a4 fz' cs (fun r hr => hz r (List.mem_append.2 (.inl hr))) hk hf hfit.left hv
      subst e1
      exact ⟨e2, cs, us, rfl, p1, p2, b4 fz' (fun r hr => hz r (List.mem_append.2 (.inr hr))) hk hf hfit.right⟩
  | [], _ :: _, vs, R, fz, l, hr => (run_fail hr).elim
  | _ :: _, [], vs, R, fz, l, hr => (run_fail hr).elim
theorem mapM_run {f : ResultVar → Sem Value} (hf : ∀ r u, ResVal P a w r u → (f r).run P w = .ok u w) : ∀ {rs : List ResultVar} {us : List Value}, ResVals P a w rs us → (List.mapM f rs).run P w = .ok us w
  | [], us, h => by
    have h : us = [] := h
    subst h
    rfl
  | r :: rs, us, h => by
    obtain ⟨u, us', e, h1, h2⟩ := h
    subst e
    rw [List.mapM_cons]
    simp [hf r u h1, mapM_run hf h2]
theorem results_all {fn : Func} {us : List Value} (h : ResVals P a w fn.results.toList us) : (results fn a.tmps).run P w = .ok (tupled us) w := by
  have h' : fn.results = fn.results.toList.toArray := by simp
  unfold results
  rw [h']
  simp only [List.mapM_toArray]
  have key := fun f hf => mapM_run (f := f) (P := P) (a := a) (w := w) hf h
  simp only [Sem.run_bind, Sem.run_map]
  rw [key]
  · cases us with
    | nil => simp [tupled]
    | cons t ts =>
      cases ts with
      | nil => simp [tupled]
      | cons t' ts => simp [tupled]
  · intro r u hr
    cases r with
    | tmp t => have : u = a.tmps.getD t undef := hr; subst this; rfl
    | cell b t => exact hr

theorem enter_get : ∀ {as : List AV} {vs : List Value} {ok : Nat → Prop} {i j : Nat} {v : Val}, AVRs w ok as vs → get (enterArgs as i) (kT j) = some v → ∃ av u, v = .tv (enterTV av) ∧ AVR w ok av u ∧ i ≤ j ∧ vs[j - i]? = some u
  | [], vs, ok, i, j, v, _, hg => by cases hg
  | x :: as, vs, ok, i, j, v, h, hg => by
    simp only [AVRs] at h
    obtain ⟨u, vs', e, h1, h2⟩ := h
    subst e
    by_cases e : i = j
    · subst e
      unfold enterArgs at hg
      rw [get_cons_same] at hg
      injection hg with hg
      exact ⟨x, u, hg.symm, h1, Nat.le_refl _, by simp⟩
    · unfold enterArgs at hg
      rw [get_cons_ne _ _ (fun e' => e (kT_inj e'))] at hg
      obtain ⟨av, u', h3, h4, h5, h6⟩ := enter_get h2 hg
      refine ⟨av, u', h3, h4, by omega, ?_⟩
      have : j - i = (j - (i + 1)) + 1 := by omega
      rw [this, List.getElem?_cons_succ]
      exact h6
theorem enter_other : ∀ {as : List AV} {i k : Nat}, (∀ j, k ≠ kT j) → get (enterArgs as i) k = none ∧ dom (enterArgs as i) k = false
  | [], _, _, _ => ⟨rfl, rfl⟩
  | x :: as, i, k, h => by
    unfold enterArgs
    rw [get_cons_ne _ _ (h i).symm, dom_cons_ne _ _ (h i).symm]
    exact enter_other h
mutual
theorem enter_TV {D : Nat → Bool} {ok ok' : Nat → Prop} (ho : ∀ k, ok k → k < w.heap.size → ok' k) : ∀ {av : AV} {v : Value}, AVR w ok av v → TVR g D w ok' (enterTV av) v
  | .val t x, v, h => by
    simp only [AVR] at h
    simp only [enterTV, TVR]
    obtain ⟨cs, e, h⟩ := h
    exact ⟨cs, e, VR_no.2 (Foot.mv h (fun _ _ _ => rfl) ho)⟩
  | .ref t x, v, h => by
    simp only [AVR] at h
    simp only [enterTV, TVR]
    obtain ⟨b, cs, e, h⟩ := h
    exact ⟨b, cs, e, Foot.mv h (fun _ _ _ => rfl) ho⟩
  | .clo f caps, v, h => by
    simp only [AVR] at h
    simp only [enterTV, TVR]
    obtain ⟨vs, e, h⟩ := h
    exact ⟨vs, e, enter_TVs ho h⟩
  | .nil e t, v, h => by
    simp only [AVR] at h
    simp only [enterTV, TVR]
    exact ⟨[.slice none 0 0], h, by simp only [VR]⟩
  | .lend _ _ _, v, h => h.elim
theorem enter_TVs {D : Nat → Bool} {ok ok' : Nat → Prop} (ho : ∀ k, ok k → k < w.heap.size → ok' k) : ∀ {as : List AV} {vs : List Value}, AVRs w ok as vs → TVRs g D w ok' (enterTV.enterTVs as) vs
  | [], v, h => by
    simp only [AVRs] at h
    simp only [enterTV.enterTVs, TVRs]
    exact h
  | x :: as, v, h => by
    simp only [AVRs] at h
    simp only [enterTV.enterTVs, TVRs]
    obtain ⟨u, vs', e, h1, h2⟩ := h
    exact ⟨u, vs', e, enter_TV ho h1, enter_TVs ho h2⟩
end
theorem AVRs_len : ∀ {as : List AV} {vs : List Value} {ok : Nat → Prop}, AVRs w ok as vs → vs.length = as.length
  | [], vs, ok, h => by simp only [AVRs] at h; rw [h]; rfl
  | x :: as, vs, ok, h => by
    simp only [AVRs] at h
    obtain ⟨u, vs', e, h1, h2⟩ := h
    rw [e, List.length_cons, List.length_cons, AVRs_len h2]
theorem said_of (hT : TabOk P T) (hO : OracOk P G O) (hm : P.follows .mixedOrders = true) {f : Nat} {fn : Func} {sg : Sig} {as : List AV} (hf : P.funcs[f]? = some fn) (hname : (fn.name == "runtime.NumGoroutine") = false)
    (hc : (match fn.body with | some c => codeOk 0 fn.ntmps c | none => false) = true) (h : absF T G O A fn sg n as = some r) : Said P sg f as r := by
  unfold absF at h
  cases hb : fn.body with
  | none => rw [hb] at h; cases h
  | some c =>
    rw [hb] at h hc
    simp only at h hc
    cases hle : Nat.ble as.length fn.ntmps with
    | false => rw [hle] at h; cases h
    | true =>
      rw [hle] at h
      have hle := Nat.le_of_ble_eq_true hle
      refine ⟨⟨fn, hf, hname, by rw [hb]; rfl⟩, fun w ok vs hav => ?_⟩
      refine calls_of_wp hf hb ?_
      have hlen := AVRs_len hav
      have hend : ∀ g st a w', retK T fn sg st = some r → Rel ⟨w, ok, fun _ => False, fn.ntmps, 0, fun _ => undef⟩ g st a w' → a.defers = [] ∧ ∃ v, (results fn a.tmps).run P w' = .ok v w' ∧ Post sg w ok r v w' := by
        intro g st a w' hk hr
        obtain ⟨q, l, h1, L, _, h3⟩ := runK_some hk
        injection h3 with h3
        subst h3
        unfold retP at h1
        obtain ⟨⟨vs, R, fz⟩, l1, l2, h4, h5, _⟩ := run_bind h1
        obtain ⟨hck, h6⟩ := run_chk h5
        cases run_ret h6
        simp only [Bool.and_eq_true, Bool.not_eq_true'] at hck
        obtain ⟨⟨hn, ho⟩, hz⟩ := hck
        have hfit := ghRen_fits (g := g) hn
        generalize ghRen g R = gc at hfit
        obtain ⟨a1, a2, a3, us, e, a4⟩ := retAll_ok (gc := gc) (ok' := okP gc (sigIds sg) w ok) hT hr h4
        refine ⟨hr.defers, _, results_all e, gc, _, ?_, rfl, a4 fz (fun _ h => h) ?_ ?_ hfit, ?_, ?_⟩
        · exact ⟨hr.os, hr.tape, hr.output, hr.grow, fun k hk => hr.frame k hk (fun h => h)⟩
        · intro k hk hlt
          refine ⟨hk.1.imp id (fun h => h.resolve_right (fun h => h)), fun j hj hs => hk.2 ?_⟩
          obtain ⟨o, v, hm⟩ := a3 j hj
          have h7 := hfit j o v hm
          have h8 := a1 j o v hm
          cases o with
          | none => simp only at h7; rw [h7.2.2] at hs; exact hs.elim
          | some q => simp only at h7 h8; rw [h7.2.2] at hs; exact .inr ⟨q, ⟨_, h8⟩, hs⟩
        · intro q hq k hk hlt
          refine ⟨?_, fun j hj hs => ?_⟩
          · rcases (hr.newR q (a2 q hq) k hk).1 with h9 | h9
            · exact .inr h9
            · exact h9.elim
          · obtain ⟨o, v, hm⟩ := a3 j hj
            have h7 := hfit j o v hm
            have h8 := a1 j o v hm
            cases o with
            | none => simp only at h7; rw [h7.2.2] at hs; exact hs.elim
            | some q' =>
              simp only at h7 h8
              rw [h7.2.2] at hs
              have hne : q ≠ q' := fun e => meets_not hz q hq (by rw [e]; exact mem_olds hm)
              exact hr.dRR q q' (a2 q hq) ⟨_, h8⟩ hne k hk hs
        · intro j hj
          obtain ⟨o, v, hm⟩ := a3 j hj
          have h7 := hfit j o v hm
          have h8 := a1 j o v hm
          cases o with
          | none =>
            simp only at h7
            rw [h7.1, h7.2.2]
            exact ⟨rfl, fun k hk => hk.elim⟩
          | some q =>
            simp only at h7 h8
            rw [h7.1, h7.2.2]
            refine ⟨hr.isl q (dom_of_get h8), fun k hk => ?_⟩
            have := hr.newR q ⟨_, h8⟩ k hk
            rcases this.1 with h9 | h9
            · exact ⟨h9, this.2⟩
            · exact h9.elim
        · intro i hi j hj hne k hki hkj
          obtain ⟨o, v, hm⟩ := a3 i hi
          have h7 := hfit i o v hm
          have h8 := a1 i o v hm
          obtain ⟨o', v', hm'⟩ := a3 j hj
          have h7' := hfit j o' v' hm'
          have h8' := a1 j o' v' hm'
          cases o with
          | none => simp only at h7; rw [h7.2.2] at hki; exact hki.elim
          | some q =>
            cases o' with
            | none => simp only at h7'; rw [h7'.2.2] at hkj; exact hkj.elim
            | some q' =>
              simp only at h7 h7' h8 h8'
              rw [h7.2.2] at hki
              rw [h7'.2.2] at hkj
              refine hr.dRR q q' ⟨_, h8⟩ ⟨_, h8'⟩ (fun e => ?_) k hki hkj
              subst e
              exact hne (olds_inj ho hm hm')
      have h0 : Rel ⟨w, ok, fun _ => False, fn.ntmps, 0, fun _ => undef⟩ ⟨fun _ => 0, fun _ => .bool, fun _ => .slice none 0 0, fun _ => .bool, fun _ _ => False⟩ (enterArgs as 0) { tmps := vs.toArray ++ Array.replicate (fn.ntmps - vs.toArray.size) undef, defers := [] } w := by
        have hBn : ∀ b, get (enterArgs as 0) (kB b) = none := fun b => (enter_other (fun j e => kT_kB j b e.symm)).1
        have hRn : ∀ b, get (enterArgs as 0) (kR b) = none := fun b => (enter_other (fun j e => kT_kR j b e.symm)).1
        have hRd : ∀ b, dom (enterArgs as 0) (kR b) = false := fun b => (enter_other (fun j e => kT_kR j b e.symm)).2
        refine ⟨?_, fun i hi => absurd hi (Nat.not_lt_zero i), rfl, rfl, rfl, rfl, Nat.le_refl _, fun _ _ _ => rfl, ?_, ?_, ?_, ?_, ?_, ?_, ?_, ?_, ?_⟩
        · simp [hlen]; omega
        · intro i v hv
          obtain ⟨av, u, e1, e2, _, e3⟩ := enter_get hav hv
          refine ⟨_, e1, ?_⟩
          have : (vs.toArray ++ Array.replicate (fn.ntmps - vs.toArray.size) undef).getD i undef = u := by
            have hi := (List.getElem?_eq_some_iff.1 e3).1
            rw [Nat.sub_zero] at e3 hi
            rw [Array.getD_eq_getD_getElem?, Array.getElem?_append_left (by simpa using hi)]
            simp [e3]
          show TVR _ _ _ _ _ ((vs.toArray ++ Array.replicate (fn.ntmps - vs.toArray.size) undef).getD i undef)
          rw [this]
          refine enter_TV (fun k hk _ => ⟨.inl hk, ?_⟩) e2
          rintro (⟨b, ⟨v, hb⟩, _⟩ | ⟨q, ⟨v, hq⟩, _⟩)
          · rw [hBn] at hb; cases hb
          · rw [hRn] at hq; cases hq
        · intro b v hv; rw [hBn] at hv; cases hv
        · intro b v hv; rw [hRn] at hv; cases hv
        · intro q hq; rw [hRd] at hq; cases hq
        · rintro b ⟨v, hv⟩; rw [hBn] at hv; cases hv
        · rintro b ⟨v, hv⟩; rw [hRn] at hv; cases hv
        · rintro b b' ⟨v, hv⟩; rw [hBn] at hv; cases hv
        · rintro b b' ⟨v, hv⟩; rw [hBn] at hv; cases hv
        · rintro b b' ⟨v, hv⟩; rw [hRn] at hv; cases hv
      refine run_ok (F := ⟨w, ok, fun _ => False, fn.ntmps, 0, fun _ => undef⟩) hT hO hm c 0 _ _ _ _ _ _ _ w hc h h0 (fun g st a w' hk hr => hend g st a w' hk hr) (fun id g st a w' hk hr => by cases hk) (fun g st a w' hk hr => hend g st a w' hk hr)
end
end Go.Proofs.Ythgbcbnmdioknaa.Ref

namespace Go.Proofs.Ythgbcbnmdioknaa.Ref
open Go.RowKit Go.Proofs.YthgbcbnmdioknaaW.PrintWords Go.Proofs.YthgbcbnmdioknaaW.PrintLast

/-- The loop of block tg, with what stands around it; ms: how many rounds the loops around it have left. -/
noncomputable def findL (T : Tab) (G : Sigs) (O : Orac) (A : Ann) (n : Nat) (ms : Nat → Nat) (tg : Nat) : Code → Nat → KSt → (Nat → KSt) → KSt → Option (Nat → KSt)
  | .seq a b, lp, nrm, brk, ret => match findL T G O A n ms tg a lp (fun st => run T G O A n b lp nrm brk ret st) brk ret with
    | some r => some r
    | none => findL T G O A n ms tg b lp nrm brk ret
  | .cond _ a b, lp, nrm, brk, ret => match findL T G O A n ms tg a lp nrm brk ret with
    | some r => some r
    | none => findL T G O A n ms tg b lp nrm brk ret
  | .block id c, _, nrm, brk, ret => findL T G O A n ms tg c id nrm (fun id' st => cond (Nat.beq id' id) (nrm st) (brk id' st)) ret
  | .loop c, lp, _, brk, ret => cond (Nat.beq lp tg)
      (some (Nat.rec (motive := fun _ => KSt) (fun _ => none) (fun _ ih st => run T G O A n c lp (fun s => (norm (A lp)).runK s [] fun s' _ => ih s') brk ret st)))
      (findL T G O A n ms tg c lp (fun s => (norm (A lp)).runK s [] fun s' _ =>
        Nat.rec (motive := fun _ => KSt) (fun _ => none) (fun _ ih st => run T G O A n c lp (fun s => (norm (A lp)).runK s [] fun s' _ => ih s') brk ret st) (ms lp) s') brk ret)
  | _, _, _, _, _ => none
noncomputable def loopOf (T : Tab) (G : Sigs) (O : Orac) (A : Ann) (fn : Func) (sg : Sig) (n : Nat) (ms : Nat → Nat) (tg : Nat) : Nat → KSt :=
  match fn.body with
  | some c => match findL T G O A n ms tg c 0 (retK T fn sg) (fun _ _ => none) (retK T fn sg) with
    | some L => L
    | none => fun _ _ => none
  | none => fun _ _ => none

end Go.Proofs.Ythgbcbnmdioknaa.Ref

namespace Go.Proofs.Ythgbcbnmdioknaa.Ref
open Go.RowKit Go.Proofs.YthgbcbnmdioknaaW.PrintWords Go.Proofs.YthgbcbnmdioknaaW.PrintLast

def AllTy (P : Program) : List (Nat × Ty) → Prop
  | [] => True
  | p :: r => TyF P p.1 p.2 ∧ AllTy P r
def AllFp (P : Program) (T : Tab) : List (Nat × Nat × List Bool) → Prop
  | [] => True
  | (S, f, p) :: r => (∀ t, T.ty S = some t → FpF P S f t p) ∧ AllFp P T r
/-- The equality of two numbers side by side, at the types that are such. -/
def eq2F (P : Program) (n : Nat) : Prop := ∀ (x y x' y' : Int) (X Y : Operand) (w : World),
    (do eqGuard .eql n X Y (.agg #[.int .i64 x, .int .i64 y]) (.agg #[.int .i64 x', .int .i64 y']); binOp .eql n (.agg #[.int .i64 x, .int .i64 y]) (.agg #[.int .i64 x', .int .i64 y']) : Sem Value).run P w = .ok (.bool (x == x' && y == y')) w ∧
    (do eqGuard .neq n X Y (.agg #[.int .i64 x, .int .i64 y]) (.agg #[.int .i64 x', .int .i64 y']); binOp .neq n (.agg #[.int .i64 x, .int .i64 y]) (.agg #[.int .i64 x', .int .i64 y']) : Sem Value).run P w = .ok (.bool (!(x == x' && y == y'))) w
def AllPl (P : Program) : List (Nat × Ty) → Prop
  | [] => True
  | (n, .pair _ _) :: r => PlF P n ∧ AllPl P r
  | _ :: r => AllPl P r
def AllEq2 (P : Program) : List (Nat × Ty) → Prop
  | [] => True
  | (n, .pair (.int .i64) (.int .i64)) :: r => eq2F P n ∧ AllEq2 P r
  | _ :: r => AllEq2 P r
theorem lookTy_mem {l : List (Nat × Ty)} {n : Nat} {t : Ty} (h : lookTy l n = some t) : (n, t) ∈ l := by
  induction l with
  | nil => cases h
  | cons p l ih =>
    obtain ⟨k, t'⟩ := p
    by_cases e : k = n
    · subst e
      simp only [lookTy, Nat.beq_refl] at h
      injection h with h
      rw [h]
      exact List.mem_cons_self ..
    · have : Nat.beq k n = false := by
        cases e' : Nat.beq k n with
        | false => rfl
        | true => exact absurd (Nat.eq_of_beq_eq_true e') e
      simp only [lookTy, this] at h
      exact List.mem_cons_of_mem _ (ih h)
theorem lookFp_mem {l : List (Nat × Nat × List Bool)} {n f : Nat} {p : List Bool} (h : lookFp l n f = some p) : (n, f, p) ∈ l := by
  induction l with
  | nil => cases h
  | cons q l ih =>
    obtain ⟨k, g, p'⟩ := q
    unfold lookFp at h
    cases e : Nat.beq k n && Nat.beq g f with
    | true =>
      rw [e] at h
      injection h with h
      rw [Bool.and_eq_true] at e
      rw [Nat.eq_of_beq_eq_true e.1, Nat.eq_of_beq_eq_true e.2, h]
      exact List.mem_cons_self ..
    | false =>
      rw [e] at h
      exact List.mem_cons_of_mem _ (ih h)
theorem allTy_of {P : Program} : ∀ {l : List (Nat × Ty)}, AllTy P l → ∀ n t, (n, t) ∈ l → TyF P n t
  | [], _, _, _, h => (List.not_mem_nil h).elim
  | p :: l, ha, n, t, h => by
    rcases List.mem_cons.1 h with e | h
    · subst e; exact ha.1
    · exact allTy_of ha.2 n t h
theorem allFp_of {P : Program} {T : Tab} : ∀ {l : List (Nat × Nat × List Bool)}, AllFp P T l → ∀ S f p, (S, f, p) ∈ l → ∀ t, T.ty S = some t → FpF P S f t p
  | [], _, _, _, _, h => (List.not_mem_nil h).elim
  | (S', f', p') :: l, ha, S, f, p, h => by
    rcases List.mem_cons.1 h with e | h
    · injection e with e1 e2
      injection e2 with e2 e3
      subst e1
      subst e2
      subst e3
      exact ha.1
    · exact allFp_of ha.2 S f p h
theorem allPl_of {P : Program} : ∀ {l : List (Nat × Ty)}, AllPl P l → ∀ n a b, (n, Ty.pair a b) ∈ l → PlF P n
  | [], _, _, _, _, h => (List.not_mem_nil h).elim
  | (n', t') :: l, ha, n, a, b, h0 => by
    rcases List.mem_cons.1 h0 with e | h2
    · injection e with e1 e2
      subst e1
      subst e2
      exact ha.1
    · cases t' with
      | pair _ _ => exact allPl_of ha.2 n a b h2
      | _ => exact allPl_of (l := l) ha n a b h2
theorem allEq2_of {P : Program} : ∀ {l : List (Nat × Ty)}, AllEq2 P l → ∀ n, (n, Ty.pair (.int .i64) (.int .i64)) ∈ l → eq2F P n
  | [], _, _, h => (List.not_mem_nil h).elim
  | (n', t') :: l, ha, n, h => by
    rcases List.mem_cons.1 h with e | h
    · injection e with e1 e2
      subst e1
      subst e2
      exact ha.1
    · refine allEq2_of (l := l) ?_ n h
      unfold AllEq2 at ha
      split at ha
      · rename_i e; cases e
      · rename_i e; injection e with e1 e2; subst e2; exact ha.2
      · rename_i e; injection e with e1 e2; subst e2; exact ha
theorem tabOk_of {P : Program} {T : Tab} (h1 : AllTy P T.tys) (h2 : AllFp P T T.fps) (h3 : P.follows .mixedOrders = true) (h4 : AllPl P T.tys) (h5 : AllEq2 P T.tys) : TabOk P T :=
  ⟨fun n t h => allTy_of h1 n t (lookTy_mem h), fun S f p t h ht => allFp_of h2 S f p (lookFp_mem h) t ht, h3, fun n a b h => allPl_of h4 n a b (lookTy_mem h), fun n h => allEq2_of h5 n (lookTy_mem h)⟩
def structOf (P : Program) (n : Nat) : Option (Array Field) := match P.underlying n with
  | some (.struct fs) => some fs
  | _ => none
theorem structOf_spec {P : Program} {n : Nat} {fs : Array Field} (h : structOf P n = some fs) : P.underlying n = some (.struct fs) := by
  unfold structOf at h
  split at h
  · rename_i fs' hu
    injection h with h
    rw [hu, h]
  · cases h
theorem und_pair {P : Program} {n : Nat} {a b : Ty} (h : (structOf P n).isSome = true) : UndF P n (.pair a b) := by
  obtain ⟨fs, hfs⟩ := Option.isSome_iff_exists.1 h
  exact ⟨fs, structOf_spec hfs⟩
def fpB (P : Program) (S f : Nat) (t : Ty) (p : List Bool) : Bool := match structOf P S with
  | some fs => match fs[f]?, subT t p with
    | some fd, some t' => (Nat.beq fd.offset (offp t p) && (match (P.underlying fd.type).map aggU with
      | some z => z == t'.isPair
      | none => false)) && (match (P.info? fd.type).map (·.size) with
      | some z => Nat.beq z t'.sz
      | none => false)
    | _, _ => false
  | none => false
theorem fpB_ok {P : Program} {S f : Nat} {t : Ty} {p : List Bool} (h : fpB P S f t p = true) : FpF P S f t p := by
  unfold fpB at h
  split at h
  · rename_i fs hfs
    split at h
    · rename_i fd t' h1 h2
      rw [Bool.and_eq_true] at h
      obtain ⟨h3, h4⟩ := h
      rw [Bool.and_eq_true] at h3
      obtain ⟨h3, h5⟩ := h3
      split at h4
      · rename_i z hz
        split at h5
        · rename_i z2 hz2
          exact ⟨fs, fd, t', structOf_spec hfs, h1, Nat.eq_of_beq_eq_true h3, h2, by rw [hz, Nat.eq_of_beq_eq_true h4], by rw [hz2, eq_of_beq h5]⟩
        · cases h5
      · cases h4
    · cases h
  · cases h
theorem fp_at {P : Program} {T : Tab} {S f : Nat} {p : List Bool} {t0 : Ty} (ht : T.ty S = some t0) (h : fpB P S f t0 p = true) : ∀ t, T.ty S = some t → FpF P S f t p := by
  intro t h'
  rw [ht] at h'
  injection h' with h'
  subst h'
  exact fpB_ok h
def plB (P : Program) (S : Nat) : Bool := match structOf P S with
  | some fs => fs.toList.all fun fd => ((P.info? fd.type).map (·.size)).isSome
  | none => false
theorem plB_ok {P : Program} {S : Nat} (h : plB P S = true) : PlF P S := by
  intro fs hfs fd hfd
  have : structOf P S = some fs := by unfold structOf; rw [hfs]
  unfold plB at h
  rw [this] at h
  exact Option.isSome_iff_exists.1 (List.all_eq_true.1 h fd hfd)
end Go.Proofs.Ythgbcbnmdioknaa.Ref

namespace Go.Proofs.Ythgbcbnmdioknaa.Ref
open Go.RowKit Go.Proofs.YthgbcbnmdioknaaW.PrintWords Go.Proofs.YthgbcbnmdioknaaW.PrintLast

def lenT : (t : Ty) → t.den → Prop
  | .slice _ t, xs => lnL (lenT t) xs
  | .pair a b, x => lenT a x.1 ∧ lenT b x.2
  | _, _ => True
mutual
def lenA : AV → Prop
  | .val t x => lenT t x
  | .ref t x => lenT t x
  | .clo _ caps => lenAs caps
  | .nil _ _ => True
  | .lend t x _ => lenT t x
def lenAs : List AV → Prop
  | [] => True
  | a :: r => lenA a ∧ lenAs r
end
section
variable {P : Program} {T : Tab} {G : Sigs} {O : Orac} {A : Ann} {rest : Orac} {sg : Sig} {f : Nat} {w : World} {ok : Nat → Prop}
theorem K_lenT : ∀ {t : Ty} {x : t.den} {cs : List Value}, t.kd.K w x cs → lenT t x
  | .int _, _, _, _ => trivial
  | .bool, _, _, _ => trivial
  | .str, _, _, _ => trivial
  | .pair a b, x, cs, h => by
    obtain ⟨c0, c1, _, h0, h1⟩ := h
    exact ⟨K_lenT h0, K_lenT h1⟩
  | .slice e t, xs, cs, h => by
    obtain ⟨A, c, _, _, hl, hm, hr⟩ := h
    refine ⟨hm, fun x hx => ?_⟩
    have hx : x ∈ (xs : List t.den) := hx
    obtain ⟨j, hj⟩ := List.getElem?_of_mem hx
    have hlt : j < List.length (α := t.den) xs := (List.getElem?_eq_some_iff.1 hj).1
    obtain ⟨ad, _, hr⟩ := hr (by omega)
    obtain ⟨c, _, hk, _⟩ := hr j x hj
    exact K_lenT hk
theorem AVR_len : ∀ {a : AV} {v : Value}, AVR w ok a v → lenA a
  | .val t x, v, h => by
    obtain ⟨cs, _, h⟩ := h
    exact K_lenT (Foot.now h)
  | .ref t x, v, h => by
    obtain ⟨a, cs, _, h⟩ := h
    exact K_lenT (Foot.now h).1
  | .clo f caps, v, h => by
    obtain ⟨vs, _, h⟩ := h
    exact go h
  | .nil _ _, v, h => trivial
  | .lend _ _ _, v, h => h.elim
  where go : ∀ {as : List AV} {vs : List Value}, AVRs w ok as vs → lenAs as
  | [], vs, h => trivial
  | a :: as, vs, h => by
    obtain ⟨v, vs', _, h1, h2⟩ := h
    exact ⟨AVR_len h1, go h2⟩
/-- What is said needs to be shown for rows of a possible length only. -/
theorem said_len (hT : TabOk P T) (hO : OracOk P G O) (hm : P.follows .mixedOrders = true) {fn : Func} {as : List AV} {r : Ret} (hf : P.funcs[f]? = some fn) (hname : (fn.name == "runtime.NumGoroutine") = false)
    (hc : (match fn.body with | some c => codeOk 0 fn.ntmps c | none => false) = true) (h : lenAs as → ∃ n, absF T G O A fn sg n as = some r) : Said P sg f as r := by
  have hb : fn.body.isNone = false := by
    cases hb : fn.body with
    | none => rw [hb] at hc; cases hc
    | some c => rfl
  refine ⟨⟨fn, hf, hname, hb⟩, fun w ok vs hav => ?_⟩
  obtain ⟨n, hn⟩ := h (AVR_len.go hav)
  exact (said_of hT hO hm hf hname hc hn).2 w ok vs hav

inductive AP where
  | val (t : Ty)
  | ref (t : Ty)
  | clo (f : Nat) (caps : List Ty)
  | nil (e : Nat) (t : Ty)
  | lend (t : Ty) (m : Mk)
def Refs : List Ty → Type
  | [] => Unit
  | t :: r => t.den × Refs r
def AP.D : AP → Type
  | .val t => t.den
  | .ref t => t.den
  | .clo _ caps => Refs caps
  | .nil _ _ => Unit
  | .lend t _ => t.den
def APs : List AP → Type
  | [] => Unit
  | p :: r => p.D × APs r
def refsOf : (ts : List Ty) → Refs ts → List AV
  | [], _ => []
  | t :: r, x => .ref t x.1 :: refsOf r x.2
def avOf : (p : AP) → p.D → AV
  | .val t, x => .val t x
  | .ref t, x => .ref t x
  | .clo f caps, x => .clo f (refsOf caps x)
  | .nil e t, _ => .nil e t
  | .lend t m, x => .lend t x m
def avsOf : (ps : List AP) → APs ps → List AV
  | [], _ => []
  | p :: r, x => avOf p x.1 :: avsOf r x.2
def mkEq : Mk → Mk → Bool
  | .no, .no => true
  | .nil, .nil => true
  | .own i, .own j => Nat.beq i j
  | .pair a b, .pair c d => mkEq a c && mkEq b d
  | _, _ => false
theorem mkEq_eq : ∀ {a b : Mk}, mkEq a b = true → a = b
  | .no, .no, _ => rfl
  | .nil, .nil, _ => rfl
  | .own i, .own j, h => by rw [Nat.eq_of_beq_eq_true h]
  | .pair a b, .pair c d, h => by
    have h := (Bool.and_eq_true _ _).mp h
    rw [mkEq_eq h.1, mkEq_eq h.2]
def deRefs : (ts : List Ty) → List AV → Option (Refs ts)
  | [], [] => some ()
  | t :: r, .ref t' x :: l => match Ty.cast t x with
    | some y => match deRefs r l with
      | some ys => some (y, ys)
      | none => none
    | none => none
  | _, _ => none
def deAV : (p : AP) → AV → Option p.D
  | .val t, .val t' x => Ty.cast t x
  | .val t, .nil e t' => Ty.cast t (t := .slice e t') []
  | .ref t, .ref t' x => Ty.cast t x
  | .clo f caps, .clo g l => match Nat.beq g f with
    | true => deRefs caps l
    | false => none
  | .nil e t, .nil e' t' => match Nat.beq e e' && t.beq t' with
    | true => some ()
    | false => none
  | .lend t m, .lend t' x m' => match mkEq m' m with
    | true => Ty.cast t x
    | false => none
  | _, _ => none
def deAVs : (ps : List AP) → List AV → Option (APs ps)
  | [], [] => some ()
  | p :: r, a :: l => match deAV p a with
    | some y => match deAVs r l with
      | some ys => some (y, ys)
      | none => none
    | none => none
  | _, _ => none
theorem deRefs_ok : ∀ {ts : List Ty} {l : List AV} {x : Refs ts}, deRefs ts l = some x → l = refsOf ts x
  | [], [], _, _ => rfl
  | [], _ :: _, _, h => by simp [deRefs] at h
  | t :: r, [], _, h => by simp [deRefs] at h
  | t :: r, .val _ _ :: l, _, h => by simp [deRefs] at h
  | t :: r, .clo _ _ :: l, _, h => by simp [deRefs] at h
  | t :: r, .nil _ _ :: l, _, h => by simp [deRefs] at h
  | t :: r, .lend _ _ _ :: l, _, h => by simp [deRefs] at h
  | t :: r, .ref t' y :: l, x, h => by
    unfold deRefs at h
    split at h
    · rename_i z hz
      split at h
      · rename_i zs hzs
        injection h with h
        subst h
        obtain ⟨e, hx⟩ := cast_some hz
        subst e
        cases hx
        rw [deRefs_ok hzs]
        rfl
      · cases h
    · cases h
theorem nil_FK {e : Nat} {t : Ty} : Kd.FK (Ty.slice e t).kd w ok ([] : List t.den) [.slice none 0 0] := slice_FK (t := t) rfl (Nat.le_refl 0) (fun W _ => ⟨rfl, by simp, fun h => absurd h (Nat.lt_irrefl 0)⟩)
/-- What is meant by a value is what the pattern says. -/
theorem deAV_ok {p : AP} {a : AV} {x : p.D} (h : deAV p a = some x) : a = avOf p x ∨ (∀ {w : World} {ok : Nat → Prop} {v : Value}, AVR w ok a v → AVR w ok (avOf p x) v) ∧ ∃ e t, a = .nil e t := by
  cases p with
  | val t =>
    cases a with
    | val t' y =>
      obtain ⟨e, hx⟩ := cast_some (show Ty.cast t y = some x from h)
      subst e
      cases hx
      exact .inl rfl
    | nil e t' =>
      obtain ⟨e, hx⟩ := cast_some (show Ty.cast t (t := .slice e t') [] = some x from h)
      subst e
      cases hx
      refine .inr ⟨fun {w ok v} hv => ?_, _, _, rfl⟩
      have hv : v = .slice none 0 0 := hv
      rw [hv]
      exact ⟨[.slice none 0 0], rfl, nil_FK⟩
    | ref t' y => cases h
    | clo f l => cases h
    | lend t' y m => cases h
  | ref t =>
    cases a with
    | ref t' y =>
      obtain ⟨e, hx⟩ := cast_some (show Ty.cast t y = some x from h)
      subst e
      cases hx
      exact .inl rfl
    | val t' y => cases h
    | clo f l => cases h
    | nil e t' => cases h
    | lend t' y m => cases h
  | clo f caps =>
    cases a with
    | val t' y => cases h
    | ref t' y => cases h
    | nil e t' => cases h
    | lend t' y m => cases h
    | clo g l =>
      have h1 : (match Nat.beq g f with
        | true => deRefs caps l
        | false => none) = some x := h
      cases hg : Nat.beq g f with
      | false => rw [hg] at h1; cases h1
      | true =>
        rw [hg] at h1
        have h2 : deRefs caps l = some x := h1
        have := Nat.eq_of_beq_eq_true hg
        subst this
        rw [deRefs_ok h2]
        exact .inl rfl
  | nil e t =>
    cases a with
    | val t' y => cases h
    | ref t' y => cases h
    | clo g l => cases h
    | lend t' y m => cases h
    | nil e' t' =>
      have h1 : (match Nat.beq e e' && t.beq t' with
        | true => some ()
        | false => none) = some x := h
      cases hg : Nat.beq e e' && t.beq t' with
      | false => rw [hg] at h1; cases h1
      | true =>
        have hg := (Bool.and_eq_true _ _).mp hg
        rw [Nat.eq_of_beq_eq_true hg.1, Ty.eq_of_beq hg.2]
        exact .inl rfl
  | lend t m =>
    cases a with
    | val t' y => cases h
    | ref t' y => cases h
    | clo g l => cases h
    | nil e' t' => cases h
    | lend t' y m' =>
      have h1 : (match mkEq m' m with
        | true => Ty.cast t y
        | false => none) = some x := h
      cases hg : mkEq m' m with
      | false => rw [hg] at h1; cases h1
      | true =>
        rw [hg] at h1
        obtain ⟨e, hx⟩ := cast_some (show Ty.cast t y = some x from h1)
        subst e
        cases hx
        rw [mkEq_eq hg]
        exact .inl rfl
theorem deAVs_ok : ∀ (ps : List AP) (l : List AV) (x : APs ps), deAVs ps l = some x → ∀ {w : World} {ok : Nat → Prop} {vs : List Value}, AVRs w ok l vs → AVRs w ok (avsOf ps x) vs
  | [], [], _, _ => fun h => h
  | [], _ :: _, _, h => by cases h
  | p :: r, [], _, h => by cases h
  | p :: r, a :: l, x, h => by
    have h1 : (match deAV p a with
      | some y => match deAVs r l with
        | some ys => some (y, ys)
        | none => none
      | none => none) = some x := h
    cases hz : deAV p a with
    | none => rw [hz] at h1; cases h1
    | some z =>
      rw [hz] at h1
      cases hzs : deAVs r l with
      | none => rw [hzs] at h1; cases h1
      | some zs =>
        rw [hzs] at h1
        have h2 : some (z, zs) = some x := h1
        injection h2 with h2
        subst h2
        intro hv
        obtain ⟨v, vs', e, q1, q2⟩ := hv
        refine ⟨v, vs', e, ?_, deAVs_ok r l zs hzs q2⟩
        rcases deAV_ok hz with h3 | h3
        · rw [h3] at q1; exact q1
        · exact h3.1 q1
theorem Said.of_args {as as' : List AV} {r : Ret} (h : Said P sg f as r) (ha : ∀ {w : World} {ok : Nat → Prop} {vs : List Value}, AVRs w ok as' vs → AVRs w ok as vs) : Said P sg f as' r :=
  ⟨h.1, fun w ok vs hv => h.2 w ok vs (ha hv)⟩
def nilO : Orac := fun _ _ _ => none
def orcX (f : Nat) (ps : List AP) (g : APs ps → Bool) (F : APs ps → Ret) (rest : Orac) : Orac := fun n av k => cond (Nat.beq n f) (match deAVs ps av with
  | some x => cond (g x) (k (F x)) none
  | none => rest n av k) (rest n av k)
theorem nilO_ok : OracOk P G nilO := fun _ _ _ _ h => by cases h
def noLend : List AP → Bool
  | .lend _ _ :: _ => false
  | _ => true
theorem noLend_ok {ps : List AP} (hn : noLend ps = true) {t : Ty} {u : t.den} {m : Mk} {l : List AV} {x : APs ps} (h : deAVs ps (.lend t u m :: l) = some x) : False := by
  cases ps with
  | nil => cases h
  | cons p r =>
    have h1 : (match deAV p (.lend t u m) with
      | some y => match deAVs r l with
        | some ys => some (y, ys)
        | none => none
      | none => none) = some x := h
    cases p with
    | lend t' m' => cases hn
    | val t' => cases h1
    | ref t' => cases h1
    | clo f c => cases h1
    | nil e t' => cases h1
theorem orcX_ok {ps : List AP} {g : APs ps → Bool} {F : APs ps → Ret} (hG : G f = some sg) (hnl : noLend ps = true) (h : ∀ x, g x = true → Said P sg f (avsOf ps x) (F x)) (hr : OracOk P G rest) : OracOk P G (orcX f ps g F rest) := by
  intro n av K r he
  unfold orcX at he
  cases hn : Nat.beq n f with
  | false => rw [hn] at he; exact hr n av K r he
  | true =>
    rw [hn] at he
    simp only [cond_true] at he
    split at he
    · rename_i x hx
      have := Nat.eq_of_beq_eq_true hn
      subst this
      cases hg : g x with
      | false => rw [hg] at he; cases he
      | true =>
        rw [hg] at he
        refine ⟨F x, fun sg' hs => ?_, he⟩
        rw [hG] at hs
        injection hs with hs
        subst hs
        exact ⟨(h x hg).of_args (deAVs_ok ps av x hx), fun t u m k _ e => by subst e; exact (noLend_ok hnl hx).elim, fun t u l e => by subst e; exact (noLend_ok hnl hx).elim, fun t u l e => by subst e; exact (noLend_ok hnl hx).elim⟩
    · exact hr n av K r he
end
end Go.Proofs.Ythgbcbnmdioknaa.Ref

namespace Go.Proofs.Ythgbcbnmdioknaa.Ref
open Go.RowKit Go.Proofs.YthgbcbnmdioknaaW.PrintWords Go.Proofs.YthgbcbnmdioknaaW.PrintLast

section
variable {P : Program} {T : Tab} {G : Sigs} {O : Orac} {A : Ann} {F : Fx} {g : Gh} {st : St} {a : Act} {w w' : World} {r : Ret} {n : Nat} {D : Nat → Bool} {ok : Nat → Prop} {sg : Sig} {f : Nat} {rest : Orac}
/-- The function stands in the program, with a body. -/
def Stands (P : Program) (f : Nat) : Prop := ∃ fn, P.funcs[f]? = some fn ∧ (fn.name == "runtime.NumGoroutine") = false ∧ fn.body.isNone = false
theorem deAVs_cons {p : AP} {r : List AP} {a : AV} {l : List AV} {x : APs (p :: r)} (h : deAVs (p :: r) (a :: l) = some x) : ∃ y ys, deAV p a = some y ∧ deAVs r l = some ys ∧ x = (y, ys) := by
  have h1 : (match deAV p a with
    | some y => match deAVs r l with
      | some ys => some (y, ys)
      | none => none
    | none => none) = some x := h
  cases hz : deAV p a with
  | none => rw [hz] at h1; cases h1
  | some z =>
    rw [hz] at h1
    cases hzs : deAVs r l with
    | none => rw [hzs] at h1; cases h1
    | some zs =>
      rw [hzs] at h1
      have h2 : some (z, zs) = some x := h1
      injection h2 with h2
      exact ⟨z, zs, rfl, rfl, h2.symm⟩
theorem lendMark {t t' : Ty} {m m' : Mk} {u : t'.den} {r : List AP} {l : List AV} {x : APs (.lend t m :: r)} (h : deAVs (.lend t m :: r) (.lend t' u m' :: l) = some x) : m' = m := by
  obtain ⟨z, ys, hz, _, _⟩ := deAVs_cons h
  have h1 : (match mkEq m' m with
    | true => Ty.cast t u
    | false => none) = some z := hz
  cases hg : mkEq m' m with
  | true => exact mkEq_eq hg
  | false => rw [hg] at h1; cases h1
end
end Go.Proofs.Ythgbcbnmdioknaa.Ref

namespace Go.Proofs.Ythgbcbnmdioknaa.Ref
open Go.RowKit Go.Proofs.YthgbcbnmdioknaaW.PrintWords Go.Proofs.YthgbcbnmdioknaaW.PrintLast

def ptrSt (t : Ty) (x : t.den) (as : List AV) : St := (kT 0, some (.tv (.box 0 []))) :: (kB 0, some (.box t x .no)) :: enterArgs as 1
def readB (t : Ty) (b : Nat) (K : Dv → Pg Ret) : Pg Ret := .rd (kB b) fun
  | .box t' x' m' => .chk (t'.beq t && (idsT t' m').isEmpty) ((full t' x' m').bind fun y => K ⟨t', y⟩)
  | _ => .fail
def isBox0 : Val → Bool
  | .tv (.box 0 []) => true
  | _ => false
def retPB (T : Tab) (fn : Func) (sg : Sig) (t : Ty) : Pg Ret := (retAll T sg fn.results.toList).bind fun (vs, R, l) => .chk (nodup (news R) && nodup (olds R) && !(meets l (olds R))) (.rd (kT 0) fun u => .chk (isBox0 u) (readB t 0 fun y => .ret (y :: vs)))
def retKB (T : Tab) (fn : Func) (sg : Sig) (t : Ty) : KSt := fun st => (retPB T fn sg t).runK st [] fun r _ => some r
noncomputable def absFB (T : Tab) (G : Sigs) (O : Orac) (A : Ann) (fn : Func) (sg : Sig) (K : Nat) (t : Ty) (x : t.den) (as : List AV) : Option Ret :=
  match fn.body with
  | some c => cond (Nat.ble (as.length + 1) fn.ntmps) (run T G O A K c 0 (retKB T fn sg t) (fun _ _ => none) (retKB T fn sg t) (ptrSt t x as)) none
  | none => none
noncomputable def loopOfB (T : Tab) (G : Sigs) (O : Orac) (A : Ann) (fn : Func) (sg : Sig) (t : Ty) (n : Nat) (ms : Nat → Nat) (tg : Nat) : Nat → KSt :=
  match fn.body with
  | some c => match findL T G O A n ms tg c 0 (retKB T fn sg t) (fun _ _ => none) (retKB T fn sg t) with
    | some L => L
    | none => fun _ _ => none
  | none => fun _ _ => none
/-- A new variable's pointer is handed back. -/
def retPN (fn : Func) (t : Ty) : Pg Ret := match fn.results.toList with
  | [.tmp s] => .rd (kT s) fun
    | .tv (.box b []) => readB t b fun y => .ret [y]
    | _ => .fail
  | _ => .fail
def retKN (fn : Func) (t : Ty) : KSt := fun st => (retPN fn t).runK st [] fun r _ => some r
noncomputable def absFN (T : Tab) (G : Sigs) (O : Orac) (A : Ann) (fn : Func) (K : Nat) (t : Ty) (as : List AV) : Option Ret :=
  match fn.body with
  | some c => cond (Nat.ble as.length fn.ntmps) (run T G O A K c 0 (retKN fn t) (fun _ _ => none) (retKN fn t) (enterArgs as 0)) none
  | none => none
noncomputable def loopOfN (T : Tab) (G : Sigs) (O : Orac) (A : Ann) (fn : Func) (t : Ty) (n : Nat) (ms : Nat → Nat) (tg : Nat) : Nat → KSt :=
  match fn.body with
  | some c => match findL T G O A n ms tg c 0 (retKN fn t) (fun _ _ => none) (retKN fn t) with
    | some L => L
    | none => fun _ _ => none
  | none => fun _ _ => none

section
variable {P : Program} {T : Tab} {G : Sigs} {O : Orac} {A : Ann} {F : Fx} {g : Gh} {st : St} {a : Act} {w w' : World} {r : Ret} {n : Nat} {D : Nat → Bool} {ok : Nat → Prop} {sg : Sig} {f : Nat} {rest : Orac}
theorem readB_spec {t : Ty} {b : Nat} {K : Dv → Pg Ret} {l : List Nat} (h : Rel F g st a w) (hr : (readB t b K).run st = some (r, l)) :
    ∃ (y : t.den) (l' : List Nat) (cs : List Value) (ty : TypeId), (K ⟨t, y⟩).run st = some (r, l') ∧ Alive st (kB b) ∧ w.heap[g.β b]? = some (.cells cs.toArray ty (0, 0)) ∧ Kd.FK t.kd w (F.ok g st) y cs := by
  obtain ⟨u, l1, hb, h2, _⟩ := run_rd hr
  split at h2
  · rename_i t' x' m'
    obtain ⟨hc, h3⟩ := run_chk h2
    obtain ⟨y, l3, l4, h4, h5, _⟩ := run_bind h3
    rw [Bool.and_eq_true] at hc
    have := Ty.eq_of_beq hc.1
    subst this
    obtain ⟨_, cs, ty, hh, hv⟩ := h.box hb
    have hids : idsT t' m' = [] := by simpa using hc.2
    refine ⟨y, l4, cs, ty, h5, ⟨_, hb⟩, hh, Foot.mono (full_FK h h4 hv) (fun k hk => ?_)⟩
    rcases hk with hk | ⟨q, hq, _⟩
    · exact hk
    · rw [hids] at hq; cases hq
  · exact (run_fail h2).elim
theorem one_get (x : Value) (vs : List Value) (r : Array Value) : ((x :: vs).toArray ++ r).getD 0 undef = x := by
  rw [Array.getD_eq_getD_getElem?, Array.getElem?_append_left (by simp)]
  simp
theorem ptr_start {t : Ty} {x : t.den} {as : List AV} {vs cs : List Value} {blk : Nat} {ty : TypeId} {nt : Nat} (hnt : as.length + 1 ≤ nt) (hh : w.heap[blk]? = some (.cells cs.toArray ty (0, 0))) (hnok : ¬ ok blk) (hfk : Kd.FK t.kd w ok x cs) (hav : AVRs w ok as vs) :
    Rel ⟨w, ok, fun k => k = blk, nt, 1, fun _ => .pointer (some ⟨blk, 0, none⟩)⟩ ⟨fun _ => blk, fun _ => t, fun _ => .slice none 0 0, fun _ => .bool, fun _ _ => False⟩ (ptrSt t x as)
      { tmps := (Value.pointer (some ⟨blk, 0, none⟩) :: vs).toArray ++ Array.replicate (nt - (Value.pointer (some ⟨blk, 0, none⟩) :: vs).toArray.size) undef, defers := [] } w := by
  have hlen := AVRs_len hav
  have hRd : ∀ q, dom (ptrSt t x as) (kR q) = false := fun q => by
    unfold ptrSt
    rw [dom_cons_ne _ _ (kT_kR 0 q), dom_cons_ne _ _ (kB_kR 0 q)]
    exact (enter_other (fun j e => kT_kR j q e.symm)).2
  have hRn : ∀ q v, get (ptrSt t x as) (kR q) = some v → False := fun q v hv => by
    have := dom_of_get hv
    rw [hRd] at this; cases this
  have hBg : ∀ b v, get (ptrSt t x as) (kB b) = some v → b = 0 ∧ v = .box t x .no := fun b v hv => by
    unfold ptrSt at hv
    rw [get_cons_ne _ _ (kT_kB 0 b)] at hv
    by_cases e : b = 0
    · subst e
      rw [get_cons_same] at hv
      exact ⟨rfl, (Option.some.inj hv).symm⟩
    · rw [get_cons_ne _ _ (fun e' => e (kB_inj e').symm), (enter_other (fun j e => kT_kB j b e.symm)).1] at hv
      cases hv
  have hok : ∀ k, ok k → k < w.heap.size → Fx.ok ⟨w, ok, fun k => k = blk, nt, 1, fun _ => .pointer (some ⟨blk, 0, none⟩)⟩ ⟨fun _ => blk, fun _ => t, fun _ => .slice none 0 0, fun _ => .bool, fun _ _ => False⟩ (ptrSt t x as) k := by
    intro k hk _
    refine ⟨.inl hk, ?_⟩
    rintro (⟨b, _, e⟩ | ⟨q, ⟨v, hq⟩, _⟩)
    · have e : blk = k := e
      exact hnok (e ▸ hk)
    · exact (hRn q v hq).elim
  refine ⟨?_, fun i hi => ?_, rfl, rfl, rfl, rfl, Nat.le_refl _, fun _ _ _ => rfl, ?_, ?_, fun q v hv => (hRn q v hv).elim, fun q hq => (by rw [hRd] at hq; cases hq), ?_, fun q ⟨v, hv⟩ => (hRn q v hv).elim, ?_, fun b q _ ⟨v, hv⟩ => (hRn q v hv).elim, fun q q' ⟨v, hv⟩ => (hRn q v hv).elim⟩
  · simp [hlen]; omega
  · have : i = 0 := by have : i < 1 := hi; omega
    subst this
    exact one_get _ _ _
  · intro i v hv
    by_cases e : i = 0
    · subst e
      unfold ptrSt at hv
      rw [get_cons_same] at hv
      injection hv with hv
      subst hv
      refine ⟨_, rfl, ?_⟩
      simp only [TVR]
      have h0 : offp t [] = 0 := by cases t <;> simp [offp]
      refine ⟨by rw [h0]; exact one_get _ _ _, ?_⟩
      unfold ptrSt
      rw [dom_cons_ne _ _ (kT_kB 0 0), dom_cons_same]
    · unfold ptrSt at hv
      rw [get_cons_ne _ _ (fun e' => e (kT_inj e').symm), get_cons_ne _ _ (kT_kB i 0).symm] at hv
      obtain ⟨av, u, e1, e2, hij, e3⟩ := enter_get hav hv
      refine ⟨_, e1, ?_⟩
      have hiv : (Value.pointer (some ⟨blk, 0, none⟩) :: vs)[i]? = some u := by
        obtain ⟨j, rfl⟩ : ∃ j, i = j + 1 := ⟨i - 1, by omega⟩
        simpa using e3
      have : ((Value.pointer (some ⟨blk, 0, none⟩) :: vs).toArray ++ Array.replicate (nt - (Value.pointer (some ⟨blk, 0, none⟩) :: vs).toArray.size) undef).getD i undef = u := by
        have hi := (List.getElem?_eq_some_iff.1 hiv).1
        rw [Array.getD_eq_getD_getElem?, Array.getElem?_append_left (by simpa using hi)]
        rw [List.getElem?_toArray, hiv]
        rfl
      show TVR _ _ _ _ _ (((Value.pointer (some ⟨blk, 0, none⟩) :: vs).toArray ++ Array.replicate (nt - (Value.pointer (some ⟨blk, 0, none⟩) :: vs).toArray.size) undef).getD i undef)
      rw [this]
      exact enter_TV hok e2
  · intro b v hv
    obtain ⟨rfl, rfl⟩ := hBg b v hv
    exact ⟨t, x, .no, rfl, rfl, cs, ty, hh, VR_ok hok (VR_no.2 hfk)⟩
  · rintro b ⟨v, hv⟩
    exact .inr rfl
  · rintro b b' ⟨v, hv⟩ ⟨v', hv'⟩ _
    rw [(hBg b v hv).1, (hBg b' v' hv').1]
theorem saidB_of (hT : TabOk P T) (hO : OracOk P G O) (hm : P.follows .mixedOrders = true) {fn : Func} {t : Ty} {x : t.den} {as : List AV} (hf : P.funcs[f]? = some fn)
    (hc : (match fn.body with | some c => codeOk 1 fn.ntmps c | none => false) = true) (h : absFB T G O A fn sg n t x as = some r) : SaidB P sg f t x as r := by
  unfold absFB at h
  cases hb : fn.body with
  | none => rw [hb] at h; cases h
  | some c =>
    rw [hb] at h hc
    simp only at h hc
    cases hle : Nat.ble (as.length + 1) fn.ntmps with
    | false => rw [hle] at h; cases h
    | true =>
      rw [hle] at h
      have hle := Nat.le_of_ble_eq_true hle
      intro w ok vs blk cs ty hh hnok hfk hav
      refine calls_of_wp hf hb ?_
      have h0 := ptr_start hle hh hnok hfk hav
      have hend : ∀ g st a w', retKB T fn sg t st = some r → Rel ⟨w, ok, fun k => k = blk, fn.ntmps, 1, fun _ => .pointer (some ⟨blk, 0, none⟩)⟩ g st a w' → a.defers = [] ∧ ∃ v, (results fn a.tmps).run P w' = .ok v w' ∧ PostB sg w ok blk t r v w' := by
        intro g st a w' hk hr
        obtain ⟨q, l, h1, L, _, h3⟩ := runK_some hk
        injection h3 with h3
        subst h3
        unfold retPB at h1
        obtain ⟨⟨vs, R, fz⟩, l1, l2, h4, h5, _⟩ := run_bind h1
        obtain ⟨hck, h6⟩ := run_chk h5
        obtain ⟨u, l3, hu0, h7, _⟩ := run_rd h6
        obtain ⟨hu, h8⟩ := run_chk h7
        obtain ⟨y, l5, cs', ty', h9, hal0, hblk, hfk'⟩ := readB_spec hr h8
        cases run_ret h9
        simp only [Bool.and_eq_true, Bool.not_eq_true'] at hck
        obtain ⟨⟨hn, ho⟩, hz⟩ := hck
        have hβ : g.β 0 = blk := by
          have hu1 : u = .tv (.box 0 []) := by
            unfold isBox0 at hu
            split at hu
            · rfl
            · cases hu
          subst hu1
          obtain ⟨tv, e1, ht⟩ := h0 |> fun _ => hr.tmps 0 _ hu0
          injection e1 with e1
          subst e1
          simp only [TVR] at ht
          have hkp := hr.keep 0 Nat.zero_lt_one
          rw [ht.1] at hkp
          injection hkp with hkp
          injection hkp with hkp
          injection hkp
        have hokF : ∀ k, Fx.ok ⟨w, ok, fun k => k = blk, fn.ntmps, 1, fun _ => .pointer (some ⟨blk, 0, none⟩)⟩ g st k → ok k ∨ w.heap.size ≤ k := by
          intro k hk
          rcases hk.1 with h1 | h1 | h1
          · exact .inl h1
          · exact .inr h1
          · exact (hk.2 (.inl ⟨0, hal0, by rw [hβ]; exact h1.symm⟩)).elim
        have hfit := ghRen_fits (g := g) hn
        generalize ghRen g R = gc at hfit
        obtain ⟨a1, a2, a3, us, e, a4⟩ := retAll_ok (gc := gc) (ok' := okP gc (sigIds sg) w ok) hT hr h4
        have hsep : ∀ k, Fx.ok ⟨w, ok, fun k => k = blk, fn.ntmps, 1, fun _ => .pointer (some ⟨blk, 0, none⟩)⟩ g st k → okP gc (sigIds sg) w ok k := by
          intro k hk
          refine ⟨hokF k hk, fun j hj hs => hk.2 ?_⟩
          obtain ⟨o, v, hm⟩ := a3 j hj
          have h7 := hfit j o v hm
          have h8 := a1 j o v hm
          cases o with
          | none => simp only at h7; rw [h7.2.2] at hs; exact hs.elim
          | some q => simp only at h7 h8; rw [h7.2.2] at hs; exact .inr ⟨q, ⟨_, h8⟩, hs⟩
        have hrows : ∀ q, Alive st (kR q) → ∀ k, g.S q k → w.heap.size ≤ k ∧ k < w'.heap.size := by
          intro q hq k hk
          have := hr.newR q hq k hk
          rcases this.1 with h9 | h9
          · exact ⟨h9, this.2⟩
          · have h9 : k = blk := h9
            subst h9
            exact (hr.dBR 0 q hal0 hq (by rw [hβ]; exact hk)).elim
        refine ⟨hr.defers, _, results_all e, y, vs, gc, us, cs', ty', rfl, hr.os, hr.tape, hr.output, hr.grow, fun k hk hne => hr.frame k hk hne, by rw [← hβ]; exact hblk, Foot.mono hfk' hsep, rfl, a4 fz (fun _ h => h) (fun k hk _ => hsep k hk) ?_ hfit, ?_, ?_⟩
        · intro q hq k hk hlt
          refine ⟨.inr (hrows q (a2 q hq) k hk).1, fun j hj hs => ?_⟩
          obtain ⟨o, v, hm⟩ := a3 j hj
          have h7 := hfit j o v hm
          have h8 := a1 j o v hm
          cases o with
          | none => simp only at h7; rw [h7.2.2] at hs; exact hs.elim
          | some q' =>
            simp only at h7 h8
            rw [h7.2.2] at hs
            have hne : q ≠ q' := fun e => meets_not hz q hq (by rw [e]; exact mem_olds hm)
            exact hr.dRR q q' (a2 q hq) ⟨_, h8⟩ hne k hk hs
        · intro j hj
          obtain ⟨o, v, hm⟩ := a3 j hj
          have h7 := hfit j o v hm
          have h8 := a1 j o v hm
          cases o with
          | none =>
            simp only at h7
            rw [h7.1, h7.2.2]
            exact ⟨rfl, fun k hk => hk.elim⟩
          | some q =>
            simp only at h7 h8
            rw [h7.1, h7.2.2]
            exact ⟨hr.isl q (dom_of_get h8), fun k hk => hrows q ⟨_, h8⟩ k hk⟩
        · intro i hi j hj hne k hki hkj
          obtain ⟨o, v, hm⟩ := a3 i hi
          have h7 := hfit i o v hm
          have h8 := a1 i o v hm
          obtain ⟨o', v', hm'⟩ := a3 j hj
          have h7' := hfit j o' v' hm'
          have h8' := a1 j o' v' hm'
          cases o with
          | none => simp only at h7; rw [h7.2.2] at hki; exact hki.elim
          | some q =>
            cases o' with
            | none => simp only at h7'; rw [h7'.2.2] at hkj; exact hkj.elim
            | some q' =>
              simp only at h7 h7' h8 h8'
              rw [h7.2.2] at hki
              rw [h7'.2.2] at hkj
              refine hr.dRR q q' ⟨_, h8⟩ ⟨_, h8'⟩ (fun e => ?_) k hki hkj
              subst e
              exact hne (olds_inj ho hm hm')
      refine run_ok (F := ⟨w, ok, fun k => k = blk, fn.ntmps, 1, fun _ => .pointer (some ⟨blk, 0, none⟩)⟩) hT hO hm c 0 _ _ _ _ _ _ _ w hc h h0 (fun g st a w' hk hr => hend g st a w' hk hr) (fun id g st a w' hk hr => by cases hk) (fun g st a w' hk hr => hend g st a w' hk hr)
def SaidP (P : Program) (sg : Sig) (f : Nat) (t : Ty) (x : t.den) (as : List AV) (r : Ret) : Prop := Stands P f ∧ SaidB P sg f t x as r
theorem said_lenB (hT : TabOk P T) (hO : OracOk P G O) (hm : P.follows .mixedOrders = true) {fn : Func} {t : Ty} {x : t.den} {as : List AV} (hf : P.funcs[f]? = some fn) (hname : (fn.name == "runtime.NumGoroutine") = false)
    (hc : (match fn.body with | some c => codeOk 1 fn.ntmps c | none => false) = true) (h : lenT t x ∧ lenAs as → ∃ n, absFB T G O A fn sg n t x as = some r) : SaidP P sg f t x as r := by
  have hb : fn.body.isNone = false := by
    cases hb : fn.body with
    | none => rw [hb] at hc; cases hc
    | some c => rfl
  refine ⟨⟨fn, hf, hname, hb⟩, fun w ok vs blk cs ty hh hnok hfk hav => ?_⟩
  obtain ⟨n, hn⟩ := h ⟨K_lenT (Foot.now hfk), AVR_len.go hav⟩
  exact saidB_of hT hO hm hf hc hn w ok vs blk cs ty hh hnok hfk hav
theorem orcB_ok {t : Ty} {qs : List AP} {g : APs (.lend t .no :: qs) → Bool} {F : APs (.lend t .no :: qs) → Ret} (hG : G f = some sg) (h : ∀ x, g x = true → SaidP P sg f t x.1 (avsOf qs x.2) (F x)) (hr : OracOk P G rest) : OracOk P G (orcX f (.lend t .no :: qs) g F rest) := by
  intro n av K r he
  unfold orcX at he
  cases hn : Nat.beq n f with
  | false => rw [hn] at he; exact hr n av K r he
  | true =>
    rw [hn] at he
    simp only [cond_true] at he
    split at he
    · rename_i x hx
      have := Nat.eq_of_beq_eq_true hn
      subst this
      cases hg : g x with
      | false => rw [hg] at he; cases he
      | true =>
        rw [hg] at he
        obtain ⟨hs, hB⟩ := h x hg
        refine ⟨F x, fun sg' hsg => ⟨⟨hs, fun w ok vs hav => ?_⟩, fun t' u' m' k' hmk e => ?_, fun t' u' l' e => ?_, fun t' u' l' e => ?_⟩, he⟩
        · have := deAVs_ok _ av x hx hav
          obtain ⟨v, vs', _, h1, _⟩ := this
          exact h1.elim
        · subst e
          rw [lendMark hx] at hmk
          cases hmk
        · subst e
          rw [hG] at hsg
          injection hsg with hsg
          subst hsg
          obtain ⟨z, ys, hz, hys, hxe⟩ := deAVs_cons hx
          subst hxe
          rcases deAV_ok hz with h3 | h3
          · have h3 : AV.lend t' u' .no = .lend t z .no := h3
            injection h3 with e1 e2 e3
            subst e1
            cases e2
            intro w ok vs blk cs ty hh hnok hfk hav
            exact hB w ok vs blk cs ty hh hnok hfk (deAVs_ok _ _ _ hys hav)
          · obtain ⟨_, e, t1, h3⟩ := h3
            cases h3
        · subst e
          have := lendMark hx
          cases this
    · exact hr n av K r he
theorem enter_start {as : List AV} {vs : List Value} {nt : Nat} (hle : as.length ≤ nt) (hav : AVRs w ok as vs) :
    Rel ⟨w, ok, fun _ => False, nt, 0, fun _ => undef⟩ ⟨fun _ => 0, fun _ => .bool, fun _ => .slice none 0 0, fun _ => .bool, fun _ _ => False⟩ (enterArgs as 0) { tmps := vs.toArray ++ Array.replicate (nt - vs.toArray.size) undef, defers := [] } w := by
  have hlen := AVRs_len hav
  have hBn : ∀ b, get (enterArgs as 0) (kB b) = none := fun b => (enter_other (fun j e => kT_kB j b e.symm)).1
  have hRn : ∀ b, get (enterArgs as 0) (kR b) = none := fun b => (enter_other (fun j e => kT_kR j b e.symm)).1
  have hRd : ∀ b, dom (enterArgs as 0) (kR b) = false := fun b => (enter_other (fun j e => kT_kR j b e.symm)).2
  refine ⟨?_, fun i hi => absurd hi (Nat.not_lt_zero i), rfl, rfl, rfl, rfl, Nat.le_refl _, fun _ _ _ => rfl, ?_, ?_, ?_, ?_, ?_, ?_, ?_, ?_, ?_⟩
  · simp [hlen]; omega
  · intro i v hv
    obtain ⟨av, u, e1, e2, _, e3⟩ := enter_get hav hv
    refine ⟨_, e1, ?_⟩
    have : (vs.toArray ++ Array.replicate (nt - vs.toArray.size) undef).getD i undef = u := by
      have hi := (List.getElem?_eq_some_iff.1 e3).1
      rw [Nat.sub_zero] at e3 hi
      rw [Array.getD_eq_getD_getElem?, Array.getElem?_append_left (by simpa using hi)]
      simp [e3]
    show TVR _ _ _ _ _ ((vs.toArray ++ Array.replicate (nt - vs.toArray.size) undef).getD i undef)
    rw [this]
    refine enter_TV (fun k hk _ => ⟨.inl hk, ?_⟩) e2
    rintro (⟨b, ⟨v, hb⟩, _⟩ | ⟨q, ⟨v, hq⟩, _⟩)
    · rw [hBn] at hb; cases hb
    · rw [hRn] at hq; cases hq
  · intro b v hv; rw [hBn] at hv; cases hv
  · intro b v hv; rw [hRn] at hv; cases hv
  · intro q hq; rw [hRd] at hq; cases hq
  · rintro b ⟨v, hv⟩; rw [hBn] at hv; cases hv
  · rintro b ⟨v, hv⟩; rw [hRn] at hv; cases hv
  · rintro b b' ⟨v, hv⟩; rw [hBn] at hv; cases hv
  · rintro b b' ⟨v, hv⟩; rw [hBn] at hv; cases hv
  · rintro b b' ⟨v, hv⟩; rw [hRn] at hv; cases hv
theorem saidN_of (hT : TabOk P T) (hO : OracOk P G O) (hm : P.follows .mixedOrders = true) {fn : Func} {t : Ty} {as : List AV} (hf : P.funcs[f]? = some fn)
    (hc : (match fn.body with | some c => codeOk 0 fn.ntmps c | none => false) = true) (h : absFN T G O A fn n t as = some r) : SaidN P f as r := by
  unfold absFN at h
  cases hb : fn.body with
  | none => rw [hb] at h; cases h
  | some c =>
    rw [hb] at h hc
    simp only at h hc
    cases hle : Nat.ble as.length fn.ntmps with
    | false => rw [hle] at h; cases h
    | true =>
      rw [hle] at h
      have hle := Nat.le_of_ble_eq_true hle
      intro w ok vs hav
      refine calls_of_wp hf hb ?_
      have h0 := enter_start hle hav
      have hend : ∀ g st a w', retKN fn t st = some r → Rel ⟨w, ok, fun _ => False, fn.ntmps, 0, fun _ => undef⟩ g st a w' → a.defers = [] ∧ ∃ v, (results fn a.tmps).run P w' = .ok v w' ∧ PostN w ok r v w' := by
        intro g st a w' hk hr
        obtain ⟨q, l, h1, L, _, h3⟩ := runK_some hk
        injection h3 with h3
        subst h3
        unfold retPN at h1
        split at h1
        · rename_i s hs
          obtain ⟨u, l1, hu, h2, _⟩ := run_rd h1
          split at h2
          · rename_i b
            obtain ⟨y, l5, cs', ty', h9, hal0, hblk, hfk'⟩ := readB_spec hr h2
            cases run_ret h9
            obtain ⟨tv, e1, ht⟩ := hr.tmps s _ hu
            injection e1 with e1
            subst e1
            simp only [TVR] at ht
            have h00 : offp (g.τ b) [] = 0 := by cases g.τ b <;> simp [offp]
            rw [h00] at ht
            have hres : ResVals P a w' fn.results.toList [.pointer (some ⟨g.β b, 0, none⟩)] := by
              rw [hs]
              exact ⟨_, [], rfl, ht.1.symm, rfl⟩
            have hnb : w.heap.size ≤ g.β b := by
              rcases hr.newB b hal0 with h1 | h1
              · exact h1
              · exact h1.elim
            refine ⟨hr.defers, _, results_all hres, t, y, g.β b, cs', ty', rfl, ⟨hr.os, hr.tape, hr.output, hr.grow, fun k hk => hr.frame k hk (fun h => h)⟩, rfl, hnb, hblk, Foot.mono hfk' (fun k hk => ⟨?_, fun e => hk.2 (.inl ⟨b, hal0, e.symm⟩)⟩)⟩
            rcases hk.1 with h1 | h1 | h1
            · exact .inl h1
            · exact .inr h1
            · exact h1.elim
          · exact (run_fail h2).elim
        · exact (run_fail h1).elim
      refine run_ok (F := ⟨w, ok, fun _ => False, fn.ntmps, 0, fun _ => undef⟩) hT hO hm c 0 _ _ _ _ _ _ _ w hc h h0 (fun g st a w' hk hr => hend g st a w' hk hr) (fun id g st a w' hk hr => by cases hk) (fun g st a w' hk hr => hend g st a w' hk hr)
def SaidV (P : Program) (f : Nat) (as : List AV) (r : Ret) : Prop := Stands P f ∧ SaidN P f as r
theorem said_lenN (hT : TabOk P T) (hO : OracOk P G O) (hm : P.follows .mixedOrders = true) {fn : Func} {t : Ty} {as : List AV} (hf : P.funcs[f]? = some fn) (hname : (fn.name == "runtime.NumGoroutine") = false)
    (hc : (match fn.body with | some c => codeOk 0 fn.ntmps c | none => false) = true) (h : lenAs as → ∃ n, absFN T G O A fn n t as = some r) : SaidV P f as r := by
  have hb : fn.body.isNone = false := by
    cases hb : fn.body with
    | none => rw [hb] at hc; cases hc
    | some c => rfl
  refine ⟨⟨fn, hf, hname, hb⟩, fun w ok vs hav => ?_⟩
  obtain ⟨n, hn⟩ := h (AVR_len.go hav)
  exact saidN_of hT hO hm hf hc hn w ok vs hav
theorem orcN_ok {qs : List AP} {g : APs (.lend .bool .nil :: qs) → Bool} {F : APs (.lend .bool .nil :: qs) → Ret} (hG : G f = some sg) (h : ∀ x, g x = true → SaidV P f (avsOf qs x.2) (F x)) (hr : OracOk P G rest) : OracOk P G (orcX f (.lend .bool .nil :: qs) g F rest) := by
  intro n av K r he
  unfold orcX at he
  cases hn : Nat.beq n f with
  | false => rw [hn] at he; exact hr n av K r he
  | true =>
    rw [hn] at he
    simp only [cond_true] at he
    split at he
    · rename_i x hx
      have := Nat.eq_of_beq_eq_true hn
      subst this
      cases hg : g x with
      | false => rw [hg] at he; cases he
      | true =>
        rw [hg] at he
        obtain ⟨hs, hB⟩ := h x hg
        refine ⟨F x, fun sg' hsg => ⟨⟨hs, fun w ok vs hav => ?_⟩, fun t' u' m' k' hmk e => ?_, fun t' u' l' e => ?_, fun t' u' l' e => ?_⟩, he⟩
        · have := deAVs_ok _ av x hx hav
          obtain ⟨v, vs', _, h1, _⟩ := this
          exact h1.elim
        · subst e
          rw [lendMark hx] at hmk
          cases hmk
        · subst e
          have := lendMark hx
          cases this
        · subst e
          obtain ⟨z, ys, hz, hys, hxe⟩ := deAVs_cons hx
          subst hxe
          intro w ok vs hav
          exact hB w ok vs (deAVs_ok _ _ _ hys hav)
    · exact hr n av K r he
end
end Go.Proofs.Ythgbcbnmdioknaa.Ref

namespace Go.Proofs.Ythgbcbnmdioknaa.Ref
open Go.RowKit Go.Proofs.YthgbcbnmdioknaaW.PrintWords Go.Proofs.YthgbcbnmdioknaaW.PrintLast

def layFs (P : Program) (rec : Nat → Ty → Bool) : List Field → Nat → Ty → Bool
  | [], _, _ => false
  | [fd], off, t => Nat.beq fd.offset off && (Nat.beq (P.cellsOf fd.type) t.sz && rec fd.type t)
  | fd :: fs, off, .pair a b => Nat.beq fd.offset off && (Nat.beq (P.cellsOf fd.type) a.sz && (rec fd.type a && layFs P rec fs (off + a.sz) b))
  | _ :: _, _, _ => false
/-- Type n of the program is laid out as t says. -/
def layB (P : Program) : Nat → Nat → Ty → Bool
  | 0, _, _ => false
  | _ + 1, n, .int k => match P.underlying n with
    | some (.int k') => kindEq k k'
    | _ => false
  | _ + 1, n, .bool => match P.underlying n with
    | some .bool => true
    | _ => false
  | _ + 1, n, .str => match P.underlying n with
    | some .string => true
    | _ => false
  | f + 1, n, .slice e t => match P.underlying n with
    | some (.slice e') => Nat.beq e e' && (Nat.beq (P.cellsOf e) t.sz && layB P f e t)
    | _ => false
  | f + 1, n, .pair a b => match P.underlying n with
    | some (.struct fs) => Nat.blt n P.types.size && layFs P (layB P f) fs.toList 0 (.pair a b)
    | _ => false
/-- Every number is of its kind, every length fits. -/
def okT : (t : Ty) → t.den → Prop
  | .int k, n => (Lit.int k n).wf = true
  | .bool, _ => True
  | .str, s => ByteArray.size s ≤ maxLen
  | .slice _ t, xs => List.length (α := t.den) xs ≤ maxLen ∧ ∀ x : t.den, List.Mem x xs → okT t x
  | .pair a b, x => okT a x.1 ∧ okT b x.2

section
variable {H : Type} {enc : TypeId × Value → H} {P : Program} {w : World} {base : Nat} {sp : Nat → Bool} {held : Bool}
theorem layFs_ok {rec : Nat → Ty → Bool} {n : Nat} {cs : List Value}
    (ih : ∀ (k : Nat) (t : Ty) (c : List Value) (x : DataW H × List MemPlace), rec k t = true → DataW.trod enc P w base sp held n k c = some x → ∃ y : t.den, okT t y ∧ t.kd.K w y c) :
    ∀ {fs : List Field} {off : Nat} {t : Ty}, layFs P rec fs off t = true → cs.length = off + t.sz → (∀ f ∈ fs, ∃ x, DataW.trod enc P w base sp held n f.type ((cs.drop f.offset).take (P.cellsOf f.type)) = some x) →
      ∃ y : t.den, okT t y ∧ t.kd.K w y (cs.drop off)
  | [], _, _, h, _, _ => by cases h
  | [fd], off, t, h, hl, hx => by
    have h' : (Nat.beq fd.offset off && (Nat.beq (P.cellsOf fd.type) t.sz && rec fd.type t)) = true := by cases t <;> exact h
    simp only [Bool.and_eq_true] at h'
    obtain ⟨x, hx⟩ := hx fd (List.mem_cons_self ..)
    obtain ⟨y, h1, h2⟩ := ih _ t _ _ h'.2.2 hx
    refine ⟨y, h1, ?_⟩
    rw [Nat.eq_of_beq_eq_true h'.1, Nat.eq_of_beq_eq_true h'.2.1, List.take_of_length_le (by rw [List.length_drop]; omega)] at h2
    exact h2
  | fd :: fd' :: fs, off, .pair a b, h, hl, hx => by
    have h' : (Nat.beq fd.offset off && (Nat.beq (P.cellsOf fd.type) a.sz && (rec fd.type a && layFs P rec (fd' :: fs) (off + a.sz) b))) = true := h
    simp only [Bool.and_eq_true] at h'
    obtain ⟨x, hx0⟩ := hx fd (List.mem_cons_self ..)
    obtain ⟨y, h1, h2⟩ := ih _ a _ _ h'.2.2.1 hx0
    have hl' : cs.length = off + (a.sz + b.sz) := hl
    obtain ⟨z, h3, h4⟩ := layFs_ok ih (t := b) h'.2.2.2 (by omega) (fun f hf => hx f (List.mem_cons_of_mem _ hf))
    refine ⟨(y, z), ⟨h1, h3⟩, (cs.drop off).take a.sz, cs.drop (off + a.sz), ?_, ?_, h4⟩
    · rw [← List.drop_drop, List.take_append_drop]
    · rw [Nat.eq_of_beq_eq_true h'.1, Nat.eq_of_beq_eq_true h'.2.1] at h2
      exact h2
  | fd :: fd' :: fs, off, .int _, h, _, _ => by cases h
  | fd :: fd' :: fs, off, .bool, h, _, _ => by cases h
  | fd :: fd' :: fs, off, .str, h, _, _ => by cases h
  | fd :: fd' :: fs, off, .slice _ _, h, _, _ => by cases h
theorem layFs_size {rec : Nat → Ty → Bool} : ∀ {fs : List Field} {off : Nat} {t : Ty}, layFs P rec fs off t = true → off + t.sz = off + (fs.map fun f => P.cellsOf f.type).sum
  | [], _, _, h => by cases h
  | [fd], off, t, h => by
    have h' : (Nat.beq fd.offset off && (Nat.beq (P.cellsOf fd.type) t.sz && rec fd.type t)) = true := by cases t <;> exact h
    simp only [Bool.and_eq_true] at h'
    simp [Nat.eq_of_beq_eq_true h'.2.1]
  | fd :: fd' :: fs, off, .pair a b, h => by
    have h' : (Nat.beq fd.offset off && (Nat.beq (P.cellsOf fd.type) a.sz && (rec fd.type a && layFs P rec (fd' :: fs) (off + a.sz) b))) = true := h
    simp only [Bool.and_eq_true] at h'
    have := layFs_size h'.2.2.2
    rw [List.map_cons, List.sum_cons, Nat.eq_of_beq_eq_true h'.2.1]
    show off + (a.sz + b.sz) = _
    omega
  | fd :: fd' :: fs, off, .int _, h => by cases h
  | fd :: fd' :: fs, off, .bool, h => by cases h
  | fd :: fd' :: fs, off, .str, h => by cases h
  | fd :: fd' :: fs, off, .slice _ _, h => by cases h
theorem mk_list {α β : Type} {R : α → β → Prop} : ∀ {ys : List β}, (∀ y ∈ ys, ∃ x, R x y) → ∃ xs : List α, xs.length = ys.length ∧ ∀ (j : Nat) (x : α) (y : β), xs[j]? = some x → ys[j]? = some y → R x y
  | [], _ => ⟨[], rfl, fun j x y hx => by simp at hx⟩
  | y :: ys, h => by
    obtain ⟨x, hx⟩ := h y (List.mem_cons_self ..)
    obtain ⟨xs, hl, hr⟩ := mk_list (ys := ys) (fun z hz => h z (List.mem_cons_of_mem _ hz))
    refine ⟨x :: xs, by simp [hl], fun j u v hu hv => ?_⟩
    cases j with
    | zero => simp at hu hv; subst hu; subst hv; exact hx
    | succ j => simp at hu hv; exact hr j u v hu hv
theorem trod_K (K0 : Kids P (· < P.types.size)) : ∀ (f n : Nat) (t : Ty) (fuel : Nat) (cs : List Value) (x : DataW H × List MemPlace), layB P f n t = true → DataW.trod enc P w base sp held fuel n cs = some x → ∃ y : t.den, okT t y ∧ t.kd.K w y cs
  | 0, _, _, _, _, _, h, _ => by cases h
  | f + 1, n, .int k, fuel, cs, x, h, hx => by
    unfold layB at h
    split at h
    · rename_i k' hu
      have := kindEq_eq h
      subst this
      obtain ⟨m, rfl, _, hw⟩ := DataW.trod_int hu hx
      exact ⟨m, hw, rfl⟩
    · cases h
  | f + 1, n, .bool, fuel, cs, x, h, hx => by
    unfold layB at h
    split at h
    · rename_i hu
      obtain ⟨b, rfl, _⟩ := DataW.trod_bool hu hx
      exact ⟨b, trivial, rfl⟩
    · cases h
  | f + 1, n, .str, fuel, cs, x, h, hx => by
    unfold layB at h
    split at h
    · rename_i hu
      obtain ⟨s, rfl, _, hs⟩ := DataW.trod_string hu hx
      exact ⟨s, hs, rfl⟩
    · cases h
  | f + 1, n, .slice e t, fuel, cs, x, h, hx => by
    unfold layB at h
    split at h
    · rename_i e' hu
      simp only [Bool.and_eq_true] at h
      obtain ⟨he, hsz, hl⟩ := h
      have := Nat.eq_of_beq_eq_true he
      subst this
      have hsz := Nat.eq_of_beq_eq_true hsz
      rcases DataW.trod_slice hu hx with ⟨rfl, _⟩ | ⟨a, len, cap, elems, rest, m, _, rfl, _, hb, hlc, hcm, hel, hi, _⟩
      · refine ⟨[], ⟨by show 0 ≤ maxLen; exact Nat.zero_le _, fun x hx => by cases hx⟩, none, 0, rfl, Nat.le_refl _, rfl, by show (0 : Nat) ≤ _; omega, fun h => by cases h⟩
      · have key : ∀ i, i < len → ∃ (c : List Value) (y : t.den), w.cells? base (a.add (i * P.cellsOf e)) (P.cellsOf e) = some c ∧ okT t y ∧ t.kd.K w y c := by
          intro i hi'
          have h1 := hi i hi'
          rw [List.getElem?_eq_getElem (by omega)] at h1
          obtain ⟨c, hc, hy⟩ := Option.bind_eq_some_iff.1 h1
          obtain ⟨y, h2, h3⟩ := trod_K K0 f e t m c _ hl hy
          exact ⟨c, y, hc, h2, h3⟩
        obtain ⟨xs, hxl, hxs⟩ := mk_list (α := t.den) (ys := List.range len) (R := fun y i => ∃ c, w.cells? base (a.add (i * P.cellsOf e)) (P.cellsOf e) = some c ∧ okT t y ∧ t.kd.K w y c) (fun i hi' => by
          obtain ⟨c, y, h1, h2⟩ := key i (List.mem_range.1 hi')
          exact ⟨y, c, h1, h2⟩)
        rw [List.length_range] at hxl
        have hget : ∀ (j : Nat) (y : t.den), xs[j]? = some y → ∃ c, w.cells? base (a.add (j * P.cellsOf e)) (P.cellsOf e) = some c ∧ okT t y ∧ t.kd.K w y c := by
          intro j y hj
          have hlt := (List.getElem?_eq_some_iff.1 hj).1
          exact hxs j y j hj (by rw [List.getElem?_range (by omega)])
        refine ⟨xs, ⟨by show xs.length ≤ maxLen; omega, fun y hy => ?_⟩, some a, cap, by rw [hxl], by omega, rfl, ?_, fun hp => ⟨a, rfl, fun j p hj => ?_⟩⟩
        · obtain ⟨j, hj⟩ := List.getElem?_of_mem hy
          obtain ⟨c, _, h2, _⟩ := hget j y hj
          exact h2
        · have : maxLen = 9223372036854775807 := by decide
          omega
        · obtain ⟨c, h1, _, h3⟩ := hget j p hj
          obtain ⟨_, hcl, hcell⟩ := World.cells?_some h1
          refine ⟨c, by rw [hcl, hsz, kd_sz], h3, fun i u hu' => ?_⟩
          have hilt := (List.getElem?_eq_some_iff.1 hu').1
          have h4 := hcell i (by omega)
          rw [hu'] at h4
          rw [kd_sz, ← hsz, ← h4, Addr.add_add]
    · cases h
  | f + 1, n, .pair p q, fuel, cs, x, h, hx => by
    unfold layB at h
    split at h
    · rename_i fs hu
      obtain ⟨xs, m, _, _, hl, hlen, hf⟩ := DataW.trod_struct hu hx
      simp only [Bool.and_eq_true] at h
      obtain ⟨hn, h⟩ := h
      have hn : n < P.types.size := Nat.le_of_ble_eq_true hn
      have hk := (K0.struct hn hu).2.1
      have hs := layFs_size h
      have hall : ∀ fd ∈ fs.toList, ∃ x, DataW.trod enc P w base sp held m fd.type ((cs.drop fd.offset).take (P.cellsOf fd.type)) = some x := by
        intro fd hfd
        obtain ⟨j, hj⟩ := List.getElem?_of_mem hfd
        have hj' : fs[j]? = some fd := by rw [← hj, Array.getElem?_toList]
        have h1 := hf j fd hj'
        have hlt := (Array.getElem?_eq_some_iff.1 hj').1
        rw [List.getElem?_eq_getElem (by omega)] at h1
        exact ⟨_, h1⟩
      obtain ⟨y, h1, h2⟩ := layFs_ok (fun k t c x hr hx => trod_K K0 f k t m c x hr hx) h (by rw [hl, hk]; omega) hall
      exact ⟨y, h1, h2⟩
    · cases h
theorem val_of {f n : Nat} {t : Ty} {v : Value} (h : layB P f n t = true) (hv : Value.okWide P w .any base n v) : v = valOf t v.cells.toList := by
  cases f with
  | zero => cases h
  | succ f =>
    have flat : ∀ (d : TypeDesc), P.underlying n = some d → (match d with | .struct _ => False | .array _ _ => False | .interface _ => False | .map _ _ => False | .func _ _ _ => False | .chan _ _ => False | .unsafePointer => False | _ => True) → (∀ cs, v ≠ .agg cs) := by
      intro d hd hm cs e
      subst e
      cases d <;> first | exact hm.elim | (simp [Value.okWide, hd, Cell.okWide, Cell.ok] at hv)
    have cell : (∀ cs, v ≠ .agg cs) → v = (v.cells.toList).headD undef := by
      intro hn
      cases v <;> first | rfl | exact (hn _ rfl).elim
    cases t with
    | int k =>
      unfold layB at h
      split at h
      · rename_i k' hu
        exact cell (flat _ hu trivial)
      · cases h
    | bool =>
      unfold layB at h
      split at h
      · rename_i hu
        exact cell (flat _ hu trivial)
      · cases h
    | str =>
      unfold layB at h
      split at h
      · rename_i hu
        exact cell (flat _ hu trivial)
      · cases h
    | slice e t =>
      unfold layB at h
      split at h
      · rename_i e' hu
        exact cell (flat _ hu trivial)
      · cases h
    | pair p q =>
      unfold layB at h
      split at h
      · rename_i fs hu
        unfold Value.okWide at hv
        rw [hu] at hv
        obtain ⟨cs, rfl, _⟩ := hv
        rfl
      · cases h
def layAll (P : Program) (f : Nat) : List TypeId → List Ty → Bool
  | [], [] => true
  | n :: ns, t :: ts => layB P f n t && layAll P f ns ts
  | _, _ => false
def avs : List Dv → List AV
  | [] => []
  | ⟨t, x⟩ :: l => .val t x :: avs l
theorem open_args (K0 : Kids P (· < P.types.size)) {f : Nat} : ∀ {ns : List TypeId} {ts : List Ty} {vs : List Value} {ds : List (DataW H)} {ps : List MemPlace}, layAll P f ns ts = true → (∀ (j : Nat) (n : TypeId) (v : Value), ns[j]? = some n → vs[j]? = some v → Value.okWide P w .any base n v) →
    DataW.TrodAll enc P w 0 sp held ns vs ds ps → ∃ l : List Dv, l.map (·.1) = ts ∧ (∀ d ∈ l, okT d.1 d.2) ∧ AVRs w (fun _ => True) (avs l) vs
  | [], [], [], _, _, _, _, _ => ⟨[], rfl, fun _ h => (List.not_mem_nil h).elim, rfl⟩
  | [], [], _ :: _, [], _, _, _, h => h.elim
  | [], [], _ :: _, _ :: _, _, _, _, h => h.elim
  | [], _ :: _, _, _, _, hl, _, _ => by cases hl
  | _ :: _, [], _, _, _, hl, _, _ => by cases hl
  | _ :: _, _ :: _, [], [], _, _, _, h => h.elim
  | _ :: _, _ :: _, [], _ :: _, _, _, _, h => h.elim
  | _ :: _, _ :: _, _ :: _, [], _, _, _, h => h.elim
  | n :: ns, t :: ts, v :: vs, d :: ds, ps, hl, hv, ⟨p, q, ⟨fuel, h1⟩, h2, _⟩ => by
    have hl' : (layB P f n t && layAll P f ns ts) = true := hl
    rw [Bool.and_eq_true] at hl'
    obtain ⟨y, h3, h4⟩ := trod_K K0 f n t fuel _ _ hl'.1 h1
    obtain ⟨l, h5, h6, h7⟩ := open_args K0 hl'.2 (fun j m u hm hu => hv (j + 1) m u (by simpa using hm) (by simpa using hu)) h2
    refine ⟨⟨t, y⟩ :: l, by rw [List.map_cons, h5], fun e he => ?_, v, vs, rfl, ⟨_, val_of hl'.1 (hv 0 n v rfl rfl), K_FK h4⟩, h7⟩
    rcases List.mem_cons.1 he with rfl | he
    · exact h3
    · exact h6 e he
theorem shut_args {w' : World} (K0 : Kids P (· < P.types.size)) (hsz : ∀ t e, t < P.types.size → P.underlying t = some (.slice e) → 0 < P.cellsOf e) (hb : Below w.heap.size w w') : ∀ {ns : List TypeId} {vs : List Value} {ds : List (DataW H)} {ps : List MemPlace}, (∀ n ∈ ns, n < P.types.size) →
    DataW.TrodAll enc P w 0 (fun _ => true) true ns vs ds ps → DataW.TrodAll enc P w' 0 (fun b => decide (b < w.heap.size)) true ns vs ds ps
  | [], [], [], _, _, h => h
  | [], [], _ :: _, _, _, h => h.elim
  | [], _ :: _, [], _, _, h => h.elim
  | [], _ :: _, _ :: _, _, _, h => h.elim
  | _ :: _, [], [], _, _, h => h.elim
  | _ :: _, [], _ :: _, _, _, h => h.elim
  | _ :: _, _ :: _, [], _, _, h => h.elim
  | n :: ns, v :: vs, d :: ds, ps, hn, ⟨p, q, ⟨fuel, h1⟩, h2, e⟩ => by
    have hlt := DataW.trod_lt fuel _ _ _ h1
    refine ⟨p, q, ⟨fuel, ?_⟩, shut_args K0 hsz hb (fun m hm => hn m (List.mem_cons_of_mem _ hm)) h2, e⟩
    exact DataW.trod_stays K0 (fun {t e} ht hu => hsz t e ht hu) (fun h => by cases h) (hn n (List.mem_cons_self ..)) h1 (fun p hp => hb.same (hlt p hp)) (fun p hp => decide_eq_true (hlt p hp))
theorem post_true {sg : Sig} {v : Value} {w' : World} {ok : Nat → Prop} (h : Post [(.bool, .no)] w ok [⟨.bool, true⟩] v w') : v = .bool true ∧ Below w.heap.size w w' := by
  obtain ⟨g, vs, hb, hv, hr, _⟩ := h
  refine ⟨?_, hb⟩
  obtain ⟨_, cs, vs', e1, h1, _, h2⟩ := hr
  have h2 : vs' = [] := h2
  subst h2
  subst e1
  rw [hv]
  have := VR_no.1 h1
  have hc : cs = [.bool true] := Foot.now this
  rw [hc]
  rfl
end
end Go.Proofs.Ythgbcbnmdioknaa.Ref

namespace Go.Proofs.Ythgbcbnmdioknaa.Ref
open Go.RowKit Go.Proofs.YthgbcbnmdioknaaW.PrintWords Go.Proofs.YthgbcbnmdioknaaW.PrintLast
open Go.ChangeShapes Go.WideShapes Go.ChangeAt

theorem trodAll_len {H : Type} {enc : TypeId × Value → H} {P : Program} {w : World} {base : Nat} {sp : Nat → Bool} {held : Bool} : ∀ {ts : List TypeId} {vs : List Value} {ds : List (DataW H)} {ps : List MemPlace}, DataW.TrodAll enc P w base sp held ts vs ds ps → ds.length = ts.length
  | [], [], [], _, _ => rfl
  | [], [], _ :: _, _, h => h.elim
  | [], _ :: _, [], _, h => h.elim
  | [], _ :: _, _ :: _, _, h => h.elim
  | _ :: _, [], [], _, h => h.elim
  | _ :: _, [], _ :: _, _, h => h.elim
  | _ :: _, _ :: _, [], _, h => h.elim
  | _ :: _, _ :: _, _ :: _, _, ⟨_, _, _, h2, _⟩ => by simp [trodAll_len h2]
theorem calls_post {H : Type} {enc : TypeId × Value → H} {P : Program} {fn : Func} {f b : Nat} {s : ChangeSpec} {ts : List Ty} (hlaid : laidOutB P = true) (hmr : mapsRowed P = true)
    (hsl : ((List.range P.types.size).all fun t => match P.underlying t with | some (.slice e) => decide (0 < P.cellsOf e) | _ => true) = true) (hvars : s.vars = []) (hres : fn.resultTypes = #[b]) (hb : P.underlying b = some .bool)
    (hpar : (fn.params.toList.all fun n => Nat.blt n P.types.size) = true) (hlay : layAll P 20 fn.params.toList ts = true) (hfn : ∀ ds : List (DataW H), ds.length = fn.params.toList.length → s.fn H ds = { results := [.lit (.bool true)], args := ds })
    (hsaid : ∀ l : List Dv, l.map (·.1) = ts → (∀ d ∈ l, okT d.1 d.2) → Said P [(.bool, .no)] f (avs l) [⟨.bool, true⟩])
    {W : World} {base : Nat} {args : Array Value} {ds gs : List (DataW H)} {before : List MemPlace}
    (hval : ∀ (j : Nat) t v, fn.params[j]? = some t → args[j]? = some v → Value.okWide P W .any base t v) (hW : DataW.Whole enc P fn.params.toList s.vars false W args.toList ds gs before) :
    Calls P f args W fun e W' => ∃ v, e = .returned v ∧ s.post enc P fn false true false false W args v W' := by
  have K0 := kids_rows hlaid hmr
  have hsz := slices_full_of P hsl
  have hW' := hW
  obtain ⟨p, q, hA, hV, rfl, hfz, hnd⟩ := hW
  rw [hvars] at hV
  obtain ⟨rfl, rfl⟩ := trodVars_none hV
  obtain ⟨l, hl, hok, hav⟩ := open_args K0 hlay (fun j n v h1 h2 => hval j n v (by rw [← h1, Array.getElem?_toList]) (by rw [← h2, Array.getElem?_toList])) hA
  have hc := (hsaid l hl hok).2 W (fun _ => True) args.toList hav
  have e0 : args.toList.toArray = args := by simp
  rw [e0] at hc
  refine hc.mono ?_
  intro e W' he
  cases e with
  | returned v =>
    obtain ⟨rfl, hbel⟩ := post_true (sg := []) he
    have hlen : (ds ++ ([] : List (DataW H))).length = fn.params.toList.length := by rw [List.append_nil]; exact trodAll_len hA
    refine ⟨_, rfl, ds, [], p ++ [], [], p, [], hW', ?_, ?_, ?_, hbel.frame _, fun h => by cases h⟩
    · rw [hfn _ hlen, hres]
      exact trodAll_mk1 (shut_bool hb _)
    · rw [hfn _ hlen, List.append_nil]
      exact shut_args K0 hsz hbel (fun n hn => Nat.le_of_ble_eq_true (List.all_eq_true.1 hpar n hn)) hA
    · rw [hfn _ hlen, hvars]
      exact rfl
  | panicked ch => exact he.elim
  | outgrown => exact he.elim
end Go.Proofs.Ythgbcbnmdioknaa.Ref
