/- The proof system: an abstract machine over data, and that what it computes the code computes.
   Conditions: as each theorem states. -/
import Derived.Test.YtcmjbplnjjdcdaaGreatK1
import Derived.WalkSpells
set_option linter.unusedVariables false
set_option linter.unusedSimpArgs false
namespace Go.Proofs.YtcmjbplnjjdcdaaGreat.Ref
open Go.RowKit Go.Proofs.YtcmjbplnjjdcdaaGreatW.PrintWords Go.Proofs.YtcmjbplnjjdcdaaGreatW.PrintLast

section
variable {P : Program} {T : Tab} {G : Sigs} {F : Fx} {g : Gh} {st : St} {a : Act} {w : World} {o : Oper} {d : Nat} {l : List Nat} {wr : Wr}
theorem freshP_run {α : Type} {p : Pg α} {st : St} {x : α} : ∀ {ids L : List Nat}, (freshP d ids p).run st = some (x, L) → (∀ j ∈ ids, dom st (kR (rid d j)) = false) ∧ ∃ L', p.run st = some (x, L')
  | [], L, h => ⟨fun _ hj => (List.not_mem_nil hj).elim, L, h⟩
  | j :: ids, L, h => by
    obtain ⟨l, h1, h2, _⟩ := run_fresh h
    obtain ⟨h3, h4⟩ := freshP_run h2
    refine ⟨fun i hi => ?_, h4⟩
    rcases List.mem_cons.1 hi with rfl | hi
    · exact h1
    · exact h3 i hi
theorem goEffM_wr {gn : Nat} {xs : List Operand} {ts : List Nat} (h : (goEffM T G o gn xs ts).run st = some (.wr wr, l)) : False := by
  unfold goEffM at h
  split at h
  · split at h
    · obtain ⟨v, l1, l2, h1, h2, _⟩ := run_bind h
      split at h2
      · obtain ⟨n, l3, l4, h3, h4, _⟩ := run_bind h2
        obtain ⟨u, l5, l6, h5, h6, _⟩ := run_bind h4
        split at h6
        · obtain ⟨_, h7⟩ := run_chk h6
          have := run_ret h7
          cases this
        · exact run_fail h6
      · exact run_fail h2
    · exact run_fail h
  · exact run_fail h
theorem goEffB_wr {gn : Nat} {xs : List Operand} {ts : List Nat} (h : (goEffB T G o gn xs ts).run st = some (.wr wr, l)) : False := by
  unfold goEffB at h
  split at h
  · split at h
    · obtain ⟨v, l1, l2, h1, h2, _⟩ := run_bind h
      split at h2
      · obtain ⟨u, l3, h3, h4, _⟩ := run_rd h2
        split at h4
        · obtain ⟨_, h5⟩ := run_chk h4
          obtain ⟨z, l5, l6, h6, h7, _⟩ := run_bind h5
          obtain ⟨⟨as, ids⟩, l7, l8, h8, h9, _⟩ := run_bind h7
          obtain ⟨_, h10⟩ := run_chk h9
          obtain ⟨_, L, h11⟩ := freshP_run h10
          have := run_ret h11
          cases this
        · exact run_fail h4
      · exact run_fail h2
    · exact run_fail h
  · exact run_fail h
theorem goEffN_wr {gn : Nat} {xs : List Operand} {ts : List Nat} (h : (goEffN T G o gn xs ts).run st = some (.wr wr, l)) : False := by
  unfold goEffN at h
  split at h
  · split at h
    · obtain ⟨⟨as, ids⟩, l1, l2, h1, h2, _⟩ := run_bind h
      obtain ⟨_, h3⟩ := run_chk h2
      obtain ⟨l4, _, h5, _⟩ := run_fresh h3
      have := run_ret h5
      cases this
    · exact run_fail h
  · exact run_fail h
theorem goEffG_wr {gn : Nat} {xs : List Operand} {ts : List Nat} (h : (goEffG T G o gn xs ts).run st = some (.wr wr, l)) : False := by
  unfold goEffG at h
  split at h
  · split at h
    · obtain ⟨v, l1, l2, h1, h2, _⟩ := run_bind h
      split at h2
      · obtain ⟨u, l3, h3, h4, _⟩ := run_rd h2
        split at h4
        · obtain ⟨_, h5⟩ := run_chk h4
          obtain ⟨z, l5, l6, h6, h7, _⟩ := run_bind h5
          obtain ⟨⟨as, ids⟩, l7, l8, h8, h9, _⟩ := run_bind h7
          obtain ⟨_, h10⟩ := run_chk h9
          obtain ⟨_, L, h11⟩ := freshP_run h10
          have := run_ret h11
          cases this
        · exact run_fail h4
      · exact run_fail h2
    · exact run_fail h
  · exact run_fail h
theorem goEffS_wr {gn : Nat} {xs : List Operand} {ts : List Nat} (h : (goEffS T G o gn xs ts).run st = some (.wr wr, l)) : False := by
  unfold goEffS at h
  split at h
  · split at h
    · obtain ⟨v, l1, l2, h1, h2, _⟩ := run_bind h
      split at h2
      · obtain ⟨u, l5, l6, h5, h6, _⟩ := run_bind h2
        split at h6
        · obtain ⟨_, h7⟩ := run_chk h6
          have := run_ret h7
          cases this
        · exact run_fail h6
      · exact run_fail h2
    · exact run_fail h
  · exact run_fail h
theorem goEffV_wr {gn : Nat} {xs : List Operand} {ts : List Nat} (h : (goEffV T G o gn xs ts).run st = some (.wr wr, l)) : False := by
  unfold goEffV at h
  split at h
  · split at h
    · obtain ⟨⟨as, ids⟩, l7, l8, h8, h9, _⟩ := run_bind h
      obtain ⟨_, h10⟩ := run_chk h9
      obtain ⟨_, L, h11⟩ := freshP_run h10
      have := run_ret h11
      cases this
    · exact run_fail h
  · exact run_fail h
theorem goEff0_wr {f : Operand} {xs : List Operand} {ts : List Nat} (h : (goEff0 T G o f xs ts).run st = some (.wr wr, l)) : False := by
  unfold goEff0 at h
  split at h
  · obtain ⟨v, l1, l2, h1, h2, _⟩ := run_bind h
    split at h2
    · split at h2
      · obtain ⟨⟨as, le⟩, l3, l4, h3, h4, _⟩ := run_bind h2
        obtain ⟨cs, l5, l6, h5, h6, _⟩ := run_bind h4
        obtain ⟨_, h7⟩ := run_chk h6
        obtain ⟨_, L, h8⟩ := freshP_run h7
        have := run_ret h8
        cases this
      · exact run_fail h2
    · exact run_fail h2
  · exact run_fail h
theorem goEff_wr {f : Operand} {xs : List Operand} {ts : List Nat} (h : (goEff T G o f xs ts).run st = some (.wr wr, l)) : False := by
  unfold goEff at h
  split at h
  · split at h
    · split at h
      · exact goEffG_wr h
      · split at h
        · exact goEffS_wr h
        · exact goEffV_wr h
    · split at h
      · exact goEffM_wr h
      · split at h
        · exact goEffB_wr h
        · split at h
          · exact goEffN_wr h
          · exact goEff0_wr h
  · exact goEff0_wr h
theorem op_call (hT : TabOk P T) (h : Rel F g st a w) {c : Call} (ho : o.op = .call c) (hn : ∀ d, o.dst = some d → F.slot d) (hr : (callEff T G o c).run st = some (.wr wr, l)) : OpOk P F o st wr a w := by
  unfold callEff at hr
  split at hr
  · rename_i hc
    split at hr
    · rename_i x S h1 h2
      exact op_len hT h ho hc h1 h2 hn hr
    · exact (run_fail hr).elim
  · rename_i hc
    split at hr
    · rename_i x S h1 h2
      exact op_cap hT h ho hc h1 h2 hn hr
    · exact (run_fail hr).elim
  · rename_i hc
    split at hr
    · rename_i s x S S' h1 h2
      split at hr
      · rename_i k hk
        exact op_zapp hT h ho hc h1 hk h2 hn hr
      · exact op_append hT h ho hc h1 S' h2 hn hr
    · exact (run_fail hr).elim
  · exact (goEff_wr hr).elim
  · exact (run_fail hr).elim
theorem op_nilCheck (h : Rel F g st a w) {x : Operand} (ho : o.op = .nilCheck x) (hn : ∀ d, o.dst = some d → F.slot d) (hr : (opEff T G o).run st = some (.wr wr, l)) : OpOk P F o st wr a w := by
  unfold opEff at hr
  rw [ho] at hr
  simp only at hr
  split at hr
  · rename_i d hd
    obtain ⟨v, l1, l2, h1, h2, _⟩ := run_bind hr
    split at h2
    · rename_i b p
      have := run_ret h2
      injection this with this
      subst this
      have hv := ev_TV h h1
      refine op_value h hd (hn d hd) (v := a.eval x) ?_ hv
      simp only [TVR] at hv
      simp [execOp, ho, hv.1]
    · exact (run_fail h2).elim
  · exact (run_fail hr).elim
theorem op_all (hT : TabOk P T) (h : Rel F g st a w) (hn : ∀ d, o.dst = some d → F.slot d) (hr : (opEff T G o).run st = some (.wr wr, l)) : OpOk P F o st wr a w := by
  cases ho : o.op with
  | move x => exact op_move h (.inl ho) hn hr
  | assign x => exact op_move h (.inr ho) hn hr
  | pick c x y => exact op_pick h ho hn hr
  | alloc E => exact op_alloc hT h ho hn hr
  | box E x => exact op_box hT h ho hn hr
  | build S ps => exact op_build hT h ho hn hr
  | buildSlice S n ps => exact op_buildSlice hT h ho hn hr
  | load L x => exact op_load hT h ho hn hr
  | store L x y => exact op_store hT h ho hr
  | binOp op t x y t' => exact op_bin hT h ho hn hr
  | unOp op t x => exact op_un h ho hn hr
  | nilCheck x => exact op_nilCheck h ho hn hr
  | convert S D x => exact op_convert hT h ho hn hr
  | makeFunc f first caps =>
    cases f with
    | func f => exact op_makeFunc h ho hn hr
    | _ => unfold opEff at hr; rw [ho] at hr; exact (run_fail hr).elim
  | makeSlice S x y => exact op_makeSlice hT h ho hn hr
  | slice S x lo hi mx =>
    cases mx with
    | none => exact op_slice hT h ho hn hr
    | some _ => unfold opEff at hr; rw [ho] at hr; exact (run_fail hr).elim
  | fieldAddr S x f => exact op_field hT h ho hn hr
  | field S x f => exact op_fieldv hT h ho hn hr
  | indexAddr S x i => exact op_indexAddr hT h ho hn hr
  | index S x i => exact op_index hT h ho hn hr
  | extract x n => exact op_extract h ho hn hr
  | call c => unfold opEff at hr; rw [ho] at hr; exact op_call hT h ho hn hr
  | _ => unfold opEff at hr; rw [ho] at hr; exact (run_fail hr).elim
end
end Go.Proofs.YtcmjbplnjjdcdaaGreat.Ref

namespace Go.Proofs.YtcmjbplnjjdcdaaGreat.Ref
open Go.RowKit Go.Proofs.YtcmjbplnjjdcdaaGreatW.PrintWords Go.Proofs.YtcmjbplnjjdcdaaGreatW.PrintLast

mutual
/-- A value that is handed over. -/
def AVR (w : World) (ok : Nat → Prop) : AV → Value → Prop
  | .val t x, v => ∃ cs, v = valOf t cs ∧ Kd.FK t.kd w ok x cs
  | .ref t x, v => ∃ a cs, v = .pointer (some a) ∧ Foot (fun W => t.kd.K W x cs ∧ Cells W a cs) w ok
  | .clo f caps, v => ∃ vs : List Value, v = .func (.func f) #[] vs.toArray ∧ AVRs w ok caps vs
  | .nil _ _, v => v = .slice none 0 0
  | .lend _ _ _, _ => False
def AVRs (w : World) (ok : Nat → Prop) : List AV → List Value → Prop
  | [], vs => vs = []
  | t :: ts, vs => ∃ v vs', vs = v :: vs' ∧ AVR w ok t v ∧ AVRs w ok ts vs'
end
/-- The rows that a result brings. -/
def OwnR (g : Gh) (w : World) : (t : Ty) → t.den → Mk → Prop
  | .slice e t, x, .own j => RowR g w j e t x
  | .pair a b, x, .pair m n => OwnR g w a x.1 m ∧ OwnR g w b x.2 n
  | _, _, _ => True
def ResR (g : Gh) (w : World) (ok : Nat → Prop) : Sig → Ret → List Value → Prop
  | [], [], vs => vs = []
  | (t, m) :: ms, ⟨t', x⟩ :: ds, vs => t' = t ∧ ∃ cs vs', vs = valOf t' cs :: vs' ∧ VR g (fun _ => true) w ok t' x m cs ∧ OwnR g w t' x m ∧ ResR g w ok ms ds vs'
  | _, _, _ => False
def tupled : List Value → Value
  | [v] => v
  | vs => .tuple vs.toArray
def okP (g : Gh) (ids : List Nat) (w : World) (ok : Nat → Prop) (k : Nat) : Prop := (ok k ∨ w.heap.size ≤ k) ∧ ∀ j ∈ ids, ¬ g.S j k
def Post (sg : Sig) (w : World) (ok : Nat → Prop) (r : Ret) (v : Value) (w' : World) : Prop :=
  ∃ (g : Gh) (vs : List Value), Below w.heap.size w w' ∧ v = tupled vs ∧ ResR g w' (okP g (sigIds sg) w ok) sg r vs ∧
    (∀ j ∈ sigIds sg, (g.ρ j).oneCell' = true ∧ ∀ k, g.S j k → w.heap.size ≤ k ∧ k < w'.heap.size) ∧
    (∀ i ∈ sigIds sg, ∀ j ∈ sigIds sg, i ≠ j → ∀ k, g.S i k → ¬ g.S j k)
/-- It returns, for these arguments, this. -/
def Said (P : Program) (sg : Sig) (f : Nat) (as : List AV) (r : Ret) : Prop :=
  (∃ fn, P.funcs[f]? = some fn ∧ (fn.name == "runtime.NumGoroutine") = false ∧ fn.body.isNone = false) ∧
  ∀ (w : World) (ok : Nat → Prop) (vs : List Value), AVRs w ok as vs → Calls P f vs.toArray w fun e w' => match e with
    | .returned v => Post sg w ok r v w'
    | _ => False

section
variable {P : Program} {T : Tab} {G : Sigs} {F : Fx} {g : Gh} {st : St} {a : Act} {w : World} {o : Oper} {d : Nat} {l : List Nat} {wr : Wr} {D : Nat → Bool} {ok ok' : Nat → Prop}
theorem full_loose {t : Ty} {x y : t.den} {m : Mk} {l : List Nat} {cs : List Value} (h : Rel F g st a w) (hf : (full t x m).run st = some (y, l)) (hv : VR g (dom st) w (F.ok g st) t x m cs) (hok : ∀ k, F.ok g st k → k < w.heap.size → ok k) (hlo : (idsT t m).isEmpty = true ∨ ∀ k, k < w.heap.size → (F.ok0 k ∨ F.w0.heap.size ≤ k) ∨ F.lent k → ok k) : Kd.FK t.kd w ok y cs := by
  have h1 := full_FK h hf hv
  refine Foot.mv h1 (fun _ _ _ => rfl) ?_
  rintro k (hk | ⟨r, hr, hk⟩) hlt
  · exact hok k hk hlt
  · rcases hlo with he | hall
    · have : idsT t m = [] := by simpa using he
      rw [this] at hr; cases hr
    · have h2 := full_alive hf r hr
      rcases (h.newR r h2 k hk).1 with h3 | h3
      · exact hall k hlt (.inl (.inr h3))
      · exact hall k hlt (.inr h3)
theorem capP_AVR (h : Rel F g st a w) {tv : TV} {av : AV} {l : List Nat} {v : Value} (hr : (capP tv).run st = some (av, l)) (hv : TVR g (dom st) w (F.ok g st) tv v) (hok : ∀ k, F.ok g st k → k < w.heap.size → ok k) (hlo : isBox tv = false ∨ ∀ k, k < w.heap.size → (F.ok0 k ∨ F.w0.heap.size ≤ k) ∨ F.lent k → ok k) : AVR w ok av v := by
  unfold capP at hr
  split at hr
  · have := run_ret hr
    subst this
    simp only [TVR] at hv
    obtain ⟨a, cs, e, hv⟩ := hv
    exact ⟨a, cs, e, Foot.mv hv (fun _ _ _ => rfl) hok⟩
  · rename_i b
    have hall := hlo.resolve_left (by simp [isBox])
    obtain ⟨u, l1, h1, h2, _⟩ := run_rd hr
    split at h2
    · rename_i t x m
      obtain ⟨y, l2, l3, h3, h4, _⟩ := run_bind h2
      have := run_ret h4
      subst this
      obtain ⟨t', x', m', e1, hb, cs, ty, hh, hc⟩ := h.boxes b _ h1
      injection e1 with e1 e2 e3
      subst e1
      cases e2
      cases e3
      simp only [TVR] at hv
      have hfk : Kd.FK t.kd w ok y cs := full_loose h h3 hc hok (.inr hall)
      have h0 : offp (g.τ b) [] = 0 := by cases g.τ b <;> simp [offp]
      refine ⟨⟨g.β b, 0, none⟩, cs, by rw [hv.1, h0], fun W hW => ⟨hfk W hW, ?_⟩⟩
      have hbl := heap_some_lt hh
      have hokb : ok (g.β b) := by
        rcases h.newB b ⟨_, h1⟩ with h5 | h5
        · exact hall _ hbl (.inl (.inr h5))
        · exact hall _ hbl (.inr h5)
      have hh' : W.heap[g.β b]? = some (.cells ([] ++ cs ++ []).toArray ty (0, 0)) := by
        rw [hW _ hokb hbl, hh]; simp
      exact cells_of_block hh' rfl
    · exact (run_fail h2).elim
  · exact (run_fail hr).elim
theorem capsP_AVR (h : Rel F g st a w) (hok : ∀ k, F.ok g st k → k < w.heap.size → ok k) : ∀ {ts : List TV} {as : List AV} {l : List Nat} {vs : List Value}, (capsP ts).run st = some (as, l) → TVRs g (dom st) w (F.ok g st) ts vs → (ts.any isBox = false ∨ ∀ k, k < w.heap.size → (F.ok0 k ∨ F.w0.heap.size ≤ k) ∨ F.lent k → ok k) → AVRs w ok as vs
  | [], as, l, vs, hr, hv, _ => by
    have := run_ret hr
    subst this
    simp only [TVRs] at hv
    exact hv
  | t :: ts, as, l, vs, hr, hv, hlo => by
    obtain ⟨x, l1, l2, h1, h2, _⟩ := run_bind hr
    obtain ⟨xs, l3, l4, h3, h4, _⟩ := run_bind h2
    have := run_ret h4
    subst this
    simp only [TVRs] at hv
    obtain ⟨v, vs', e, hv1, hv2⟩ := hv
    refine ⟨v, vs', e, capP_AVR h h1 hv1 hok ?_, capsP_AVR h hok h3 hv2 ?_⟩
    · refine hlo.imp (fun h => ?_) id
      rw [List.any_cons, Bool.or_eq_false_iff] at h
      exact h.1
    · refine hlo.imp (fun h => ?_) id
      rw [List.any_cons, Bool.or_eq_false_iff] at h
      exact h.2
theorem argP_AVR (h : Rel F g st a w) {tv : TV} {av : AV} {l : List Nat} {v : Value} (hr : (argP tv).run st = some (av, l)) (hv : TVR g (dom st) w (F.ok g st) tv v) (hok : ∀ k, F.ok g st k → k < w.heap.size → ok k) (hlo : loose tv = false ∨ ∀ k, k < w.heap.size → (F.ok0 k ∨ F.w0.heap.size ≤ k) ∨ F.lent k → ok k) : AVR w ok av v := by
  unfold argP at hr
  split at hr
  · have := run_ret hr
    subst this
    simp only [TVR, VR] at hv
    obtain ⟨cs, e, hv⟩ := hv
    rw [e, hv]
    rfl
  · rename_i t x m _
    obtain ⟨y, l1, l2, h1, h2, _⟩ := run_bind hr
    have := run_ret h2
    subst this
    simp only [TVR] at hv
    obtain ⟨cs, e, hv⟩ := hv
    refine ⟨cs, e, full_loose h h1 hv hok (hlo.imp (fun h => ?_) id)⟩
    simpa [loose] using h
  · rename_i f caps
    obtain ⟨y, l1, l2, h1, h2, _⟩ := run_bind hr
    have := run_ret h2
    subst this
    simp only [TVR] at hv
    obtain ⟨vs, e, hv⟩ := hv
    exact ⟨vs, e, capsP_AVR h hok h1 hv (hlo.imp (fun h => by simpa [loose] using h) id)⟩
  · rename_i h1 h2
    refine capP_AVR h hr hv hok (hlo.imp (fun h => ?_) id)
    cases tv with
    | v t x m => exact (h1 _ _ _ rfl).elim
    | clo f c => exact (h2 _ _ rfl).elim
    | box b p => cases h
    | _ => rfl
theorem argsP_AVR (h : Rel F g st a w) (hok : ∀ k, F.ok g st k → k < w.heap.size → ok k) : ∀ {xs : List Operand} {ts : List Nat} {as : List AV} {b : Bool} {l : List Nat}, (argsP T xs ts).run st = some ((as, b), l) → (b = false ∨ ∀ k, k < w.heap.size → (F.ok0 k ∨ F.w0.heap.size ≤ k) ∨ F.lent k → ok k) → AVRs w ok as (xs.map a.eval)
  | [], ts, as, b, l, hr, _ => by
    have := run_ret hr
    injection this with e1 e2
    subst e1
    rfl
  | x :: xs, ts, as, b, l, hr, hlo => by
    obtain ⟨v, l1, l2, h1, h2, _⟩ := run_bind hr
    obtain ⟨av, l3, l4, h3, h4, _⟩ := run_bind h2
    obtain ⟨⟨as', b'⟩, l5, l6, h5, h6, _⟩ := run_bind h4
    have := run_ret h6
    injection this with e1 e2
    subst e1
    have hb : b = (loose v || b') := e2.symm
    refine ⟨_, _, rfl, argP_AVR h h3 (evt_TV h h1) hok ?_, argsP_AVR h hok h5 ?_⟩
    · refine hlo.imp (fun h => ?_) id
      rw [hb, Bool.or_eq_false_iff] at h
      exact h.1
    · refine hlo.imp (fun h => ?_) id
      rw [hb, Bool.or_eq_false_iff] at h
      exact h.2
theorem AVRs_app : ∀ {as bs : List AV} {us vs : List Value}, AVRs w ok as us → AVRs w ok bs vs → AVRs w ok (as ++ bs) (us ++ vs)
  | [], bs, us, vs, h, h' => by
    simp only [AVRs] at h
    subst h
    exact h'
  | a :: as, bs, us, vs, h, h' => by
    simp only [AVRs] at h
    obtain ⟨v, vs', e, h1, h2⟩ := h
    subst e
    exact ⟨v, vs' ++ vs, rfl, h1, AVRs_app h2 h'⟩

theorem own_VR : ∀ {t : Ty} {x : t.den} {m : Mk} {cs : List Value}, ownable t m = true → VR g D w ok t x m cs → VR g D w ok' t x m cs
  | .int _, x, m, cs, _, h => by simp only [VR] at h ⊢; exact fun W hW => Foot.now h
  | .bool, x, m, cs, _, h => by simp only [VR] at h ⊢; exact fun W hW => Foot.now h
  | .str, x, m, cs, _, h => by simp only [VR] at h ⊢; exact fun W hW => Foot.now h
  | .slice _ _, x, .own r, cs, _, h => by simp only [VR] at h ⊢; exact h
  | .slice _ _, x, .nil, cs, _, h => by simp only [VR] at h ⊢; exact h
  | .slice _ _, x, .no, cs, ho, h => by cases ho
  | .slice _ _, x, .pair _ _, cs, ho, h => by cases ho
  | .pair a b, x, m, cs, ho, h => by
    simp only [ownable, Bool.and_eq_true] at ho
    have hp : ∀ {m : Mk}, (∀ p q, m ≠ .pair p q) → VR g D w ok (.pair a b) x m cs → ownable a m.fst = true → ownable b m.snd = true → VR g D w ok' (.pair a b) x m cs := by
      intro m hm h h1 h2
      have hf : m.fst = .no := by cases m <;> first | rfl | exact (hm _ _ rfl).elim
      have hs : m.snd = .no := by cases m <;> first | rfl | exact (hm _ _ rfl).elim
      rw [hf] at h1
      rw [hs] at h2
      have hF : Kd.FK (Ty.pair a b).kd w ok x cs := by cases m <;> first | (simp only [VR] at h; exact h) | exact (hm _ _ rfl).elim
      obtain ⟨ha, hb⟩ := FK_pair hF
      have ha' := VR_no.1 (own_VR h1 ((VR_no (g := g) (D := D)).2 ha))
      have hb' := VR_no.1 (own_VR h2 ((VR_no (g := g) (D := D)).2 hb))
      have := pair_FK ha' hb'
      rw [List.take_append_drop] at this
      cases m <;> first | (simp only [VR]; exact this) | exact (hm _ _ rfl).elim
    cases m with
    | pair p q =>
      simp only [VR] at h ⊢
      obtain ⟨c0, c1, e, h0, h1⟩ := h
      exact ⟨c0, c1, e, own_VR ho.1 h0, own_VR ho.2 h1⟩
    | no => exact hp (fun _ _ e => by cases e) h ho.1 ho.2
    | nil => exact hp (fun _ _ e => by cases e) h ho.1 ho.2
    | own r => exact hp (fun _ _ e => by cases e) h ho.1 ho.2

theorem takeRows_get {gc : Gh} {d : Nat} : ∀ {t : Ty} {x : t.den} {m : Mk}, OwnR gc w t x m → ∀ p ∈ takeRows t x m d, ∃ j ∈ idsT t m, p.1 = kR (rid d j) ∧ ∃ e t xs, p.2 = some (.row e t xs) ∧ RowR gc w j e t xs
  | .slice e t, x, .own j, h, p, hp => by
    have := List.mem_singleton.1 hp
    subst this
    exact ⟨j, by simp [idsT], rfl, e, t, x, rfl, h⟩
  | .pair a b, x, .pair m n, h, p, hp => by
    rcases List.mem_append.1 hp with hp | hp
    · obtain ⟨j, hj, r⟩ := takeRows_get h.1 p hp
      exact ⟨j, List.mem_append.2 (.inl hj), r⟩
    · obtain ⟨j, hj, r⟩ := takeRows_get h.2 p hp
      exact ⟨j, List.mem_append.2 (.inr hj), r⟩
  | .slice _ _, x, .no, _, p, hp => (List.not_mem_nil hp).elim
  | .slice _ _, x, .nil, _, p, hp => (List.not_mem_nil hp).elim
  | .slice _ _, x, .pair _ _, _, p, hp => (List.not_mem_nil hp).elim
  | .pair _ _, x, .no, _, p, hp => (List.not_mem_nil hp).elim
  | .pair _ _, x, .nil, _, p, hp => (List.not_mem_nil hp).elim
  | .pair _ _, x, .own _, _, p, hp => (List.not_mem_nil hp).elim
  | .int _, x, _, _, p, hp => (List.not_mem_nil hp).elim
  | .bool, x, _, _, p, hp => (List.not_mem_nil hp).elim
  | .str, x, _, _, p, hp => (List.not_mem_nil hp).elim
theorem takeVals_get {gc : Gh} {d : Nat} : ∀ {sg : Sig} {r : Ret} {vs : List Value}, ResR gc w ok sg r vs → ∀ p ∈ (takeVals d sg r).1, ∃ j ∈ sigIds sg, p.1 = kR (rid d j) ∧ ∃ e t xs, p.2 = some (.row e t xs) ∧ RowR gc w j e t xs
  | [], [], _, _, p, hp => (List.not_mem_nil hp).elim
  | [], _ :: _, _, h, _, _ => h.elim
  | _ :: _, [], _, h, _, _ => h.elim
  | (t, m) :: ms, ⟨t', x⟩ :: ds, vs, h, p, hp => by
    obtain ⟨e, cs, vs', _, _, h3, h4⟩ := h
    subst e
    rcases List.mem_append.1 hp with hp | hp
    · obtain ⟨j, hj, r⟩ := takeRows_get h3 p hp
      exact ⟨j, List.mem_append.2 (.inl hj), r⟩
    · obtain ⟨j, hj, r⟩ := takeVals_get h4 p hp
      exact ⟨j, List.mem_append.2 (.inr hj), r⟩
theorem dom_mem {st : St} {k : Nat} : dom st k = true ↔ ∃ v, (k, v) ∈ st := by
  induction st with
  | nil => simp [dom]
  | cons p st ih =>
    obtain ⟨k', v'⟩ := p
    by_cases hk : k' = k
    · subst hk
      exact ⟨fun _ => ⟨v', List.mem_cons_self ..⟩, fun _ => dom_cons_same _ _ _⟩
    · rw [dom_cons_ne _ _ hk, ih]
      constructor
      · rintro ⟨v, hv⟩; exact ⟨v, List.mem_cons_of_mem _ hv⟩
      · rintro ⟨v, hv⟩
        rcases List.mem_cons.1 hv with e | hv
        · injection e with e1 e2; exact (hk e1.symm).elim
        · exact ⟨v, hv⟩
theorem get_mem {st : St} {k : Nat} {v : Val} (h : get st k = some v) : (k, some v) ∈ st := by
  induction st with
  | nil => simp [get] at h
  | cons p st ih =>
    obtain ⟨k', v'⟩ := p
    by_cases hk : k' = k
    · subst hk
      rw [get_cons_same] at h
      subst h
      exact List.mem_cons_self ..
    · rw [get_cons_ne _ _ hk] at h
      exact List.mem_cons_of_mem _ (ih h)
theorem idsT_no : ∀ t : Ty, idsT t .no = []
  | .slice _ _ => rfl
  | .pair a b => by show idsT a .no ++ idsT b .no = []; rw [idsT_no a, idsT_no b]; rfl
  | .int _ => rfl
  | .bool => rfl
  | .str => rfl
theorem takeRows_dom {d : Nat} : ∀ {t : Ty} {x : t.den} {m : Mk}, ∀ j ∈ idsT t m, ∃ v, (kR (rid d j), v) ∈ takeRows t x m d
  | .slice e t, x, .own i, j, hj => by
    have := List.mem_singleton.1 hj
    subst this
    exact ⟨_, List.mem_singleton.2 rfl⟩
  | .pair a b, x, .pair m n, j, hj => by
    rcases List.mem_append.1 hj with hj | hj
    · obtain ⟨v, hv⟩ := takeRows_dom (d := d) (x := x.1) j hj
      exact ⟨v, List.mem_append.2 (.inl hv)⟩
    · obtain ⟨v, hv⟩ := takeRows_dom (d := d) (x := x.2) j hj
      exact ⟨v, List.mem_append.2 (.inr hv)⟩
  | .slice _ _, x, .no, j, hj => (List.not_mem_nil hj).elim
  | .slice _ _, x, .nil, j, hj => (List.not_mem_nil hj).elim
  | .slice _ _, x, .pair _ _, j, hj => (List.not_mem_nil hj).elim
  | .pair a b, x, .no, j, hj => by
    have hj : j ∈ idsT a .no ++ idsT b .no := hj
    rw [idsT_no, idsT_no] at hj; cases hj
  | .pair a b, x, .nil, j, hj => by
    have hj : j ∈ idsT a .no ++ idsT b .no := hj
    rw [idsT_no, idsT_no] at hj; cases hj
  | .pair a b, x, .own _, j, hj => by
    have hj : j ∈ idsT a .no ++ idsT b .no := hj
    rw [idsT_no, idsT_no] at hj; cases hj
  | .int _, x, _, j, hj => (List.not_mem_nil hj).elim
  | .bool, x, _, j, hj => (List.not_mem_nil hj).elim
  | .str, x, _, j, hj => (List.not_mem_nil hj).elim
theorem takeVals_dom {gc : Gh} {d : Nat} : ∀ {sg : Sig} {r : Ret} {vs : List Value}, ResR gc w ok sg r vs → ∀ j ∈ sigIds sg, ∃ v, (kR (rid d j), v) ∈ (takeVals d sg r).1
  | [], [], _, _, j, hj => (List.not_mem_nil hj).elim
  | [], _ :: _, _, h, _, _ => h.elim
  | _ :: _, [], _, h, _, _ => h.elim
  | (t, m) :: ms, ⟨t', x⟩ :: ds, vs, h, j, hj => by
    obtain ⟨e, cs, vs', _, _, h3, h4⟩ := h
    subst e
    rcases List.mem_append.1 hj with hj | hj
    · obtain ⟨v, hv⟩ := takeRows_dom (d := d) (x := x) j hj
      exact ⟨v, List.mem_append.2 (.inl hv)⟩
    · obtain ⟨v, hv⟩ := takeVals_dom (d := d) h4 j hj
      exact ⟨v, List.mem_append.2 (.inr hv)⟩
/-- A result's word, in the caller's numbers. -/
theorem shift_VR {gc g' : Gh} {D' : Nat → Bool} {d : Nat} : ∀ {t : Ty} {x : t.den} {m : Mk} {cs : List Value}, (∀ j ∈ idsT t m, g'.ρ (rid d j) = gc.ρ j ∧ D' (kR (rid d j)) = true) →
    VR gc (fun _ => true) w ok t x m cs → VR g' D' w ok t x (m.shift d) cs
  | .slice _ _, x, .own j, cs, hi, h => by
    simp only [VR, Mk.shift] at h ⊢
    have := hi j (by simp [idsT])
    exact ⟨by rw [this.1]; exact h.1, this.2⟩
  | .slice _ _, x, .nil, cs, hi, h => by simp only [VR, Mk.shift] at h ⊢; exact h
  | .slice _ _, x, .no, cs, hi, h => by simp only [VR, Mk.shift] at h ⊢; exact h
  | .slice _ _, x, .pair _ _, cs, hi, h => by simp only [VR, Mk.shift] at h ⊢; exact h
  | .pair a b, x, .pair m n, cs, hi, h => by
    simp only [VR, Mk.shift] at h ⊢
    obtain ⟨c0, c1, e, h0, h1⟩ := h
    exact ⟨c0, c1, e, shift_VR (fun j hj => hi j (List.mem_append.2 (.inl hj))) h0, shift_VR (fun j hj => hi j (List.mem_append.2 (.inr hj))) h1⟩
  | .pair _ _, x, .no, cs, hi, h => by simp only [VR, Mk.shift] at h ⊢; exact h
  | .pair _ _, x, .nil, cs, hi, h => by simp only [VR, Mk.shift] at h ⊢; exact h
  | .pair _ _, x, .own _, cs, hi, h => by simp only [VR, Mk.shift] at h ⊢; exact h
  | .int _, x, _, cs, hi, h => by simp only [VR] at h ⊢; exact h
  | .bool, x, _, cs, hi, h => by simp only [VR] at h ⊢; exact h
  | .str, x, _, cs, hi, h => by simp only [VR] at h ⊢; exact h
theorem VR_ok {g : Gh} {D : Nat → Bool} {t : Ty} {x : t.den} {m : Mk} {cs : List Value} (ho : ∀ k, ok k → k < w.heap.size → ok' k) (h : VR g D w ok t x m cs) : VR g D w ok' t x m cs :=
  VR.mv (g := g) (g' := g) (D := D) (D' := D) (w := w) (w' := w) ⟨fun _ h => h, fun _ _ => rfl, fun _ _ => rfl, fun _ _ => rfl, fun _ _ => rfl, fun _ _ _ => rfl, ho⟩ h
theorem takeVals_TV {gc g' : Gh} {D' : Nat → Bool} {d : Nat} : ∀ {sg : Sig} {r : Ret} {vs : List Value}, (∀ j ∈ sigIds sg, g'.ρ (rid d j) = gc.ρ j ∧ D' (kR (rid d j)) = true) → (resOk sg = true ∨ ∀ k, ok k → k < w.heap.size → ok' k) →
    ResR gc w ok sg r vs → TVRs g' D' w ok' (takeVals d sg r).2 vs
  | [], [], _, _, _, h => h
  | [], _ :: _, _, _, _, h => h.elim
  | _ :: _, [], _, _, _, h => h.elim
  | (t, m) :: ms, ⟨t', x⟩ :: ds, vs, hi, ho, h => by
    obtain ⟨e, cs, vs', h1, h2, h3, h4⟩ := h
    subst e
    simp only [takeVals, TVRs, TVR]
    refine ⟨_, vs', h1, ⟨cs, rfl, shift_VR (fun j hj => hi j (List.mem_append.2 (.inl hj))) ?_⟩, takeVals_TV (fun j hj => hi j (List.mem_append.2 (.inr hj))) ?_ h4⟩
    · rcases ho with ho | ho
      · simp only [resOk, Bool.and_eq_true] at ho
        exact own_VR ho.1 h2
      · exact VR_ok ho h2
    · rcases ho with ho | ho
      · simp only [resOk, Bool.and_eq_true] at ho
        exact .inl ho.2
      · exact .inr ho
end
end Go.Proofs.YtcmjbplnjjdcdaaGreat.Ref

namespace Go.Proofs.YtcmjbplnjjdcdaaGreat.Ref
open Go.RowKit Go.Proofs.YtcmjbplnjjdcdaaGreatW.PrintWords Go.Proofs.YtcmjbplnjjdcdaaGreatW.PrintLast

/-- The rows that a call at slot d has brought. -/
def byCall (d : Nat) (ids : List Nat) (r : Nat) : Bool := Nat.beq (r / 8) d && ids.contains (r % 8)
def ghCall (g gc : Gh) (d : Nat) (ids : List Nat) : Gh := { g with
  ρ := fun r => if byCall d ids r then gc.ρ (r % 8) else g.ρ r
  σ := fun r => if byCall d ids r then gc.σ (r % 8) else g.σ r
  S := fun r => if byCall d ids r then gc.S (r % 8) else g.S r }
theorem byCall_rid {d j : Nat} {ids : List Nat} (hj : j ∈ ids) (h8 : ∀ j ∈ ids, j < 8) : byCall d ids (rid d j) = true := by
  have := h8 j hj
  have h1 : rid d j / 8 = d := by unfold rid; omega
  have h2 : rid d j % 8 = j := by unfold rid; omega
  unfold byCall
  rw [h1, h2]
  simp [hj]
theorem byCall_spec {d r : Nat} {ids : List Nat} (h : byCall d ids r = true) : ∃ j ∈ ids, r = rid d j ∧ r % 8 = j := by
  unfold byCall at h
  simp only [Bool.and_eq_true] at h
  have h1 := Nat.eq_of_beq_eq_true h.1
  have h2 : r % 8 ∈ ids := by simpa using h.2
  exact ⟨r % 8, h2, by unfold rid; omega, rfl⟩

section
variable {P : Program} {T : Tab} {G : Sigs} {F : Fx} {g : Gh} {st : St} {a : Act} {w : World} {o : Oper} {d : Nat} {l : List Nat} {wr : Wr} {D : Nat → Bool} {ok ok' : Nat → Prop}
theorem postOf_T {d i : Nat} {sg : Sig} {r : Ret} (hrow : ∀ p ∈ (takeVals d sg r).1, ∃ j ∈ sigIds sg, p.1 = kR (rid d j)) : (dom (postOf d sg r) (kT i) = true ↔ i = d) ∧ (∀ v, get (postOf d sg r) (kT i) = some v → i = d ∧ v = .tv (match (takeVals d sg r).2 with
    | [v] => v
    | vs => .tup vs)) := by
  have hno : dom (takeVals d sg r).1 (kT i) = false := by
    cases e : dom (takeVals d sg r).1 (kT i) with
    | false => rfl
    | true =>
      obtain ⟨v, hv⟩ := dom_mem.1 e
      obtain ⟨j, _, e⟩ := hrow _ hv
      exact (kT_kR _ _ e).elim
  unfold postOf
  constructor
  · rw [dom_app, hno, Bool.false_or]
    by_cases e : i = d
    · subst e; simp [dom_cons_same]
    · rw [dom_one_ne _ (fun e' => e (kT_inj e').symm)]
      simp [e]
  · intro v hv
    rw [get_app_out hno] at hv
    by_cases e : i = d
    · subst e
      rw [get_cons_same] at hv
      injection hv with hv
      exact ⟨rfl, hv.symm⟩
    · rw [get_cons_ne _ _ (fun e' => e (kT_inj e').symm)] at hv
      cases hv
theorem postOf_B {d b : Nat} {sg : Sig} {r : Ret} (hrow : ∀ p ∈ (takeVals d sg r).1, ∃ j ∈ sigIds sg, p.1 = kR (rid d j)) : dom (postOf d sg r) (kB b) = false := by
  cases e : dom (postOf d sg r) (kB b) with
  | false => rfl
  | true =>
    obtain ⟨v, hv⟩ := dom_mem.1 e
    rcases List.mem_append.1 hv with hv | hv
    · obtain ⟨j, _, e⟩ := hrow _ hv
      exact (kB_kR _ _ e).elim
    · have := List.mem_singleton.1 hv
      injection this with e _
      exact (kT_kB _ _ e.symm).elim
theorem postOf_R {d q : Nat} {sg : Sig} {r : Ret} (hrow : ∀ p ∈ (takeVals d sg r).1, ∃ j ∈ sigIds sg, p.1 = kR (rid d j)) (hdom : ∀ j ∈ sigIds sg, ∃ v, (kR (rid d j), v) ∈ (takeVals d sg r).1) (h8 : ∀ j ∈ sigIds sg, j < 8) : dom (postOf d sg r) (kR q) = byCall d (sigIds sg) q := by
  cases e : byCall d (sigIds sg) q with
  | true =>
    obtain ⟨j, hj, rfl, _⟩ := byCall_spec e
    obtain ⟨v, hv⟩ := hdom j hj
    exact dom_mem.2 ⟨v, List.mem_append.2 (.inl hv)⟩
  | false =>
    cases e' : dom (postOf d sg r) (kR q) with
    | false => rfl
    | true =>
      obtain ⟨v, hv⟩ := dom_mem.1 e'
      rcases List.mem_append.1 hv with hv | hv
      · obtain ⟨j, hj, e2⟩ := hrow _ hv
        rw [kR_inj e2, byCall_rid hj h8] at e
        cases e
      · have := List.mem_singleton.1 hv
        injection this with e _
        exact (kT_kR _ _ e.symm).elim
theorem tupled_TV {D : Nat → Bool} : ∀ {ts : List TV} {vs : List Value}, TVRs g D w ok ts vs → TVR g D w ok (match ts with
    | [v] => v
    | vs => .tup vs) (tupled vs)
  | [], vs, h => by
    simp only [TVRs] at h
    subst h
    simp only [TVR, tupled]
    exact ⟨[], rfl, by simp only [TVRs]⟩
  | [t], vs, h => by
    simp only [TVRs] at h
    obtain ⟨v, vs', e, h1, e'⟩ := h
    subst e'
    subst e
    exact h1
  | t :: t' :: ts, vs, h => by
    have h' := h
    simp only [TVRs] at h
    obtain ⟨v, vs', e, h1, v', vs'', e', h2, h3⟩ := h
    subst e'
    subst e
    simp only [TVR, tupled]
    exact ⟨_, rfl, h'⟩
theorem Rel.called (h : Rel F g st a w) {d : Nat} (hd : F.slot d) {sg : Sig} {r : Ret} {v : Value} {w' : World} (h8 : ∀ j ∈ sigIds sg, j < 8) (hfr : ∀ j ∈ sigIds sg, dom st (kR (rid d j)) = false)
    (hok : resOk sg = true ∨ ∀ k, ok k → k < w.heap.size → F.ok g st k) (hp : Post sg w ok r v w') : ∃ g', Rel F g' (postOf d sg r ++ st) (a.put (some d) v) w' := by
  obtain ⟨gc, vs, hbl, hv, hres, hid, hdis⟩ := hp
  have hrow := takeVals_get (d := d) hres
  have hrow1 : ∀ p ∈ (takeVals d sg r).1, ∃ j ∈ sigIds sg, p.1 = kR (rid d j) := fun p hp => by obtain ⟨j, hj, e, _⟩ := hrow p hp; exact ⟨j, hj, e⟩
  have hdom := takeVals_dom (d := d) hres
  have hT := fun i => postOf_T (i := i) hrow1
  have hB := fun b => postOf_B (b := b) hrow1
  have hR := fun q => postOf_R (q := q) hrow1 hdom h8
  have hnew : ∀ {q}, dom st (kR q) = true → byCall d (sigIds sg) q = false := by
    intro q hq
    cases e : byCall d (sigIds sg) q with
    | false => rfl
    | true =>
      obtain ⟨j, hj, rfl, _⟩ := byCall_spec e
      rw [hfr j hj] at hq
      cases hq
  have hSnew : ∀ {q}, byCall d (sigIds sg) q = true → ∀ k, (ghCall g gc d (sigIds sg)).S q k → w.heap.size ≤ k ∧ k < w'.heap.size := by
    intro q hq k hk
    have hk' : gc.S (q % 8) k := by simpa [ghCall, hq] using hk
    obtain ⟨j, hj, _, e⟩ := byCall_spec hq
    rw [e] at hk'
    exact (hid j hj).2 k hk'
  have hSold : ∀ {q}, byCall d (sigIds sg) q = false → (ghCall g gc d (sigIds sg)).S q = g.S q := by
    intro q hq
    simp [ghCall, hq]
  have hold : ∀ {q}, Alive (postOf d sg r ++ st) (kR q) → byCall d (sigIds sg) q = false → Alive st (kR q) := by
    intro q ha hq
    exact (alive_app_out (by rw [hR, hq])).1 ha
  refine ⟨ghCall g gc d (sigIds sg), ?_⟩
  refine h.upd _ (postOf d sg r) _ w' (fun _ => False) (by rw [put_size, h.size]) (fun i hi => by cases e : dom (postOf d sg r) (kT i) with | false => rfl | true => have h1 := (hT i).1.1 e; have h2 := hd.1; omega) (by rw [put_defers, h.defers]) hbl.os hbl.tape hbl.output hbl.size (fun k hk _ => hbl.block k hk) (fun _ hk => hk.elim) (fun _ _ => rfl) (fun _ _ => rfl) ?_ ?_ ?_ ?_ (fun _ _ _ hk => hk) (fun _ _ _ _ _ hk => hk) ?_ ?_ ?_ ?_ ?_ ?_ ?_ ?_
  · intro q hq; simp [ghCall, hnew hq]
  · intro q hq; simp [ghCall, hnew hq]
  · intro q _ hq
    rw [hR] at hq
    exact hSold hq
  · rintro k hk (⟨b, hb, e⟩ | ⟨q, hq, e⟩)
    · exact .inl ⟨b, (alive_app_out (hB b)).1 hb, e⟩
    · cases hc : byCall d (sigIds sg) q with
      | true =>
        have := hSnew hc k e
        omega
      | false =>
        rw [hSold hc] at e
        exact .inr ⟨q, hold hq hc, e⟩
  · intro i hi
    refine put_ne (fun e => ?_)
    rw [(hT i).1.2 e] at hi
    cases hi
  · intro hmv i v' hv'
    obtain ⟨e1, e2⟩ := (hT i).2 v' hv'
    subst e1
    subst e2
    refine ⟨_, rfl, ?_⟩
    rw [put_same (by rw [h.size]; exact hd.2), hv]
    refine tupled_TV (takeVals_TV (gc := gc) (ok := okP gc (sigIds sg) w ok) (fun j hj => ?_) ?_ hres)
    · have hb := byCall_rid (d := i) hj h8
      have h2 : rid i j % 8 = j := by have := h8 j hj; unfold rid; omega
      refine ⟨by simp [ghCall, hb, h2], ?_⟩
      rw [dom_app, hR, hb, Bool.true_or]
    · refine hok.imp id (fun hok k hk hlt => ?_)
      have hlim : F.w0.heap.size ≤ w.heap.size := h.grow
      by_cases hkl : k < w.heap.size
      · have hk1 : ok k := by
          rcases hk.1 with h1 | h1
          · exact h1
          · omega
        have := hok k hk1 hkl
        exact hmv.ok k this hkl
      · refine ⟨.inr (by omega), ?_⟩
        rintro (⟨b, hb, e⟩ | ⟨q, hq, e⟩)
        · have := h.boxLt ((alive_app_out (hB b)).1 hb)
          have e' : g.β b = k := e
          omega
        · cases hc : byCall i (sigIds sg) q with
          | true =>
            have e' : gc.S (q % 8) k := by simpa [ghCall, hc] using e
            obtain ⟨j, hj, _, ej⟩ := byCall_spec hc
            rw [ej] at e'
            exact hk.2 j hj e'
          | false =>
            rw [hSold hc] at e
            have := (h.newR q (hold hq hc) k e).2
            omega
  · intro _ b v' hv'
    have := dom_of_get hv'
    rw [hB b] at this
    cases this
  · intro q v' hv'
    have hc : byCall d (sigIds sg) q = true := by rw [← hR]; exact dom_of_get hv'
    rcases List.mem_append.1 (get_mem hv') with hm | hm
    · obtain ⟨j, hj, e, e', t, xs, e2, hrr⟩ := hrow _ hm
      injection e2 with e2
      have eq : q = rid d j := kR_inj e
      have h2 : q % 8 = j := by have := h8 j hj; rw [eq]; unfold rid; omega
      refine ⟨e', t, xs, e2, ?_, fun k hk => ?_⟩
      · refine ⟨by show (ghCall g gc d (sigIds sg)).σ q = t; simp only [ghCall, hc, if_true, h2]; exact hrr.1, ?_⟩
        show Kd.S t.kd e' w' 0 ((ghCall g gc d (sigIds sg)).S q) ((ghCall g gc d (sigIds sg)).ρ q) xs
        simp only [ghCall, hc, if_true, h2]
        exact hrr.2
      · have := hSnew hc k hk
        exact ⟨.inl (Nat.le_trans h.grow this.1), this.2⟩
    · have := List.mem_singleton.1 hm
      injection this with e _
      exact (kT_kR _ _ e.symm).elim
  · intro q hq
    rw [hR] at hq
    obtain ⟨j, hj, e, h2⟩ := byCall_spec hq
    simp only [ghCall, hq, if_true, h2]
    exact (hid j hj).1
  · intro b b' hb hb' e
    exact h.dBB b b' ((alive_app_out (hB b)).1 hb) ((alive_app_out (hB b')).1 hb') e
  · intro b q hb hq hk
    have hb' := (alive_app_out (hB b)).1 hb
    cases hc : byCall d (sigIds sg) q with
    | true =>
      have h1 := hSnew hc _ hk
      have h2 := h.boxLt hb'
      have h3 : w.heap.size ≤ g.β b := h1.1
      omega
    | false =>
      rw [hSold hc] at hk
      exact h.dBR b q hb' (hold hq hc) hk
  · intro q q' hq hq' hne k hk hk'
    cases hc : byCall d (sigIds sg) q with
    | true =>
      cases hc' : byCall d (sigIds sg) q' with
      | true =>
        obtain ⟨j, hj, e, e1⟩ := byCall_spec hc
        obtain ⟨j', hj', e', e1'⟩ := byCall_spec hc'
        have hk1 : gc.S j k := by simpa [ghCall, hc, e1] using hk
        have hk2 : gc.S j' k := by simpa [ghCall, hc', e1'] using hk'
        refine hdis j hj j' hj' (fun e2 => hne ?_) k hk1 hk2
        rw [e, e', e2]
      | false =>
        have h1 := hSnew hc k hk
        rw [hSold hc'] at hk'
        have := (h.newR q' (hold hq' hc') k hk').2
        omega
    | false =>
      rw [hSold hc] at hk
      cases hc' : byCall d (sigIds sg) q' with
      | true =>
        have h1 := hSnew hc' k hk'
        have := (h.newR q (hold hq hc) k hk).2
        omega
      | false =>
        rw [hSold hc'] at hk'
        exact h.dRR q q' (hold hq hc) (hold hq' hc') hne k hk hk'

theorem op_go (h : Rel F g st a w) {c : Call} {f : Operand} (ho : o.op = .call c) (hc : c.callee = .value f) (hn : ∀ d, o.dst = some d → F.slot d) {fn : Nat} {as : List AV} {post : Ret → Wr}
    (hr : (goEff0 T G o f c.args.toList c.argTypes.toList).run st = some (.call fn as post, l)) {r : Ret} (hS : ∀ sg, G fn = some sg → Said P sg fn as r) : OpOk P F o st (post r) a w := by
  unfold goEff0 at hr
  split at hr
  · rename_i d hd
    obtain ⟨v, l1, l2, h1, h2, _⟩ := run_bind hr
    split at h2
    · rename_i gn caps
      split at h2
      · rename_i sg hsg
        obtain ⟨⟨as1, b⟩, l3, l4, h3, h4, _⟩ := run_bind h2
        obtain ⟨cs, l5, l6, h5, h6, _⟩ := run_bind h4
        obtain ⟨hck, h7⟩ := run_chk h6
        obtain ⟨hfr, L, h8⟩ := freshP_run h7
        have := run_ret h8
        injection this with e1 e2 e3
        subst e1
        subst e2
        subst e3
        simp only [Bool.and_eq_true, Bool.or_eq_true, Bool.not_eq_true', Bool.or_eq_false_iff] at hck
        obtain ⟨hlo, hnd, h8⟩ := hck
        have hlt8 : ∀ j ∈ sigIds sg, j < 8 := fun j hj => by
          have := List.all_eq_true.1 h8 j hj
          exact Nat.le_of_ble_eq_true this
        have hf := ev_TV h h1
        simp only [TVR] at hf
        obtain ⟨vs, ef, hcaps⟩ := hf
        obtain ⟨⟨fn, hfn, hname, hbody⟩, hcalls⟩ := hS sg hsg
        have hrun : (execOp a.eval o).run P w = .ok (.enter gn (c.args.toList.map a.eval ++ vs).toArray) w := by
          have e1 : (c.args.map a.eval ++ vs.toArray) = (c.args.toList.map a.eval ++ vs).toArray := by
            apply Array.ext'; simp
          have hname' : ¬ fn.name = "runtime.NumGoroutine" := fun e => by rw [e] at hname; simp at hname
          have hbody' : ¬ fn.body = none := fun e => by rw [e] at hbody; cases hbody
          simp [execOp, ho, resolve, hc, ef, Deferred.ofValue, invoke, callFunc, hfn, hname', hbody', ← e1]
        intro ops Kc Q hw hK
        have go : ∀ ok : Nat → Prop, (∀ k, F.ok g st k → k < w.heap.size → ok k) → ((b = false ∧ caps.any isBox = false) ∨ ∀ k, k < w.heap.size → (F.ok0 k ∨ F.w0.heap.size ≤ k) ∨ F.lent k → ok k) → (resOk sg = true ∨ ∀ k, ok k → k < w.heap.size → F.ok g st k) → Oper.wp P o a w Kc Q := by
          intro ok ho1 ho2 ho3
          unfold Oper.wp
          rw [hrun, Oper.upon_enter]
          have hav := AVRs_app (argsP_AVR h ho1 h3 (ho2.imp (·.1) id)) (capsP_AVR h ho1 h5 hcaps (ho2.imp (·.2) id))
          refine Calls.mono (hcalls w ok _ hav) ?_
          intro e w' he
          cases e with
          | returned v =>
            obtain ⟨g', hg'⟩ := h.called (hn d hd) hlt8 hfr ho3 he
            show Kc (a.put o.dst v) w'
            rw [hd]
            exact hK g' _ _ hg'
          | panicked ch => exact he.elim
          | outgrown => exact he.elim
        rcases hlo with hlo | hlo
        · exact go (F.ok g st) (fun _ h _ => h) (.inl hlo) (.inr fun _ h _ => h)
        · exact go (fun _ => True) (fun _ _ _ => trivial) (.inr fun _ _ _ => trivial) (.inl hlo)
      · exact (run_fail h2).elim
    · exact (run_fail h2).elim
  · exact (run_fail hr).elim
end
end Go.Proofs.YtcmjbplnjjdcdaaGreat.Ref

namespace Go.Proofs.YtcmjbplnjjdcdaaGreat.Ref
open Go.RowKit Go.Proofs.YtcmjbplnjjdcdaaGreatW.PrintWords Go.Proofs.YtcmjbplnjjdcdaaGreatW.PrintLast

def LentS (g : Gh) (ids : List Nat) (k : Nat) : Prop := ∃ j ∈ ids, g.S j k
def LentOk (g : Gh) (w : World) (ids : List Nat) : Prop := (∀ j ∈ ids, (g.ρ j).oneCell' = true ∧ ∀ k, g.S j k → k < w.heap.size) ∧ ∀ i ∈ ids, ∀ j ∈ ids, i ≠ j → ∀ k, g.S i k → ¬ g.S j k
/-- What stands in the rows behind the call; nothing is said where the result's type is another one: the rows are given up. -/
def KeptM (g : Gh) (w : World) (t : Ty) (m : Mk) (t' : Ty) (y : t'.den) (w' : World) : Prop :=
  ∀ e : t' = t, ∃ gc : Gh, OwnR gc w' t (e ▸ y) m ∧ (∀ j ∈ idsT t m, gc.ρ j = g.ρ j ∧ ∀ k, gc.S j k → (LentS g (idsT t m) k ∨ w.heap.size ≤ k) ∧ k < w'.heap.size) ∧
    ∀ i ∈ idsT t m, ∀ j ∈ idsT t m, i ≠ j → ∀ k, gc.S i k → ¬ gc.S j k
def PostM (g : Gh) (w : World) (t : Ty) (m : Mk) (r : Ret) (v' : Value) (w' : World) : Prop :=
  ∃ (n : Int) (t' : Ty) (y : t'.den), r = [⟨.int .i64, n⟩, ⟨t', y⟩] ∧ v' = .int .i64 n ∧ w'.os = w.os ∧ w'.tape = w.tape ∧ w'.output = w.output ∧ w.heap.size ≤ w'.heap.size ∧
    (∀ k, k < w.heap.size → ¬ LentS g (idsT t m) k → w'.heap[k]? = w.heap[k]?) ∧ KeptM g w t m t' y w'
def SaidM (P : Program) (f : Nat) (t : Ty) (u : t.den) (m : Mk) (k : Int) (r : Ret) : Prop :=
  ∀ (w : World) (g : Gh) (cs : List Value), VR g (fun _ => true) w (fun _ => False) t u m cs → OwnR g w t u m → LentOk g w (idsT t m) →
    Calls P f #[valOf t cs, .int .i64 k] w fun e w' => match e with
      | .returned v' => PostM g w t m r v' w'
      | _ => False
def PostS (g : Gh) (w : World) (t : Ty) (m : Mk) (r : Ret) (v' : Value) (w' : World) : Prop :=
  ∃ (t' : Ty) (y : t'.den), r = [⟨t', y⟩] ∧ v' = .tuple #[] ∧ w'.os = w.os ∧ w'.tape = w.tape ∧ w'.output = w.output ∧ w.heap.size ≤ w'.heap.size ∧
    (∀ k, k < w.heap.size → ¬ LentS g (idsT t m) k → w'.heap[k]? = w.heap[k]?) ∧ KeptM g w t m t' y w'
/-- A function that writes into the rows of its only argument, and hands back nothing. -/
def SaidS (P : Program) (f : Nat) (t : Ty) (u : t.den) (m : Mk) (r : Ret) : Prop :=
  ∀ (w : World) (g : Gh) (cs : List Value), VR g (fun _ => true) w (fun _ => False) t u m cs → OwnR g w t u m → LentOk g w (idsT t m) →
    Calls P f #[valOf t cs] w fun e w' => match e with
      | .returned v' => PostS g w t m r v' w'
      | _ => False
/-- A function that is handed a pointer to a variable: what the variable holds behind the call comes first. -/
def PostB (sg : Sig) (w : World) (ok : Nat → Prop) (blk : Nat) (t : Ty) (r : Ret) (v : Value) (w' : World) : Prop :=
  ∃ (y : t.den) (rs : Ret) (gc : Gh) (vs : List Value) (cs : List Value) (ty : TypeId), r = ⟨t, y⟩ :: rs ∧ w'.os = w.os ∧ w'.tape = w.tape ∧ w'.output = w.output ∧ w.heap.size ≤ w'.heap.size ∧
    (∀ k, k < w.heap.size → k ≠ blk → w'.heap[k]? = w.heap[k]?) ∧ w'.heap[blk]? = some (.cells cs.toArray ty (0, 0)) ∧ Kd.FK t.kd w' (okP gc (sigIds sg) w ok) y cs ∧
    v = tupled vs ∧ ResR gc w' (okP gc (sigIds sg) w ok) sg rs vs ∧ (∀ j ∈ sigIds sg, (gc.ρ j).oneCell' = true ∧ ∀ k, gc.S j k → w.heap.size ≤ k ∧ k < w'.heap.size) ∧
    (∀ i ∈ sigIds sg, ∀ j ∈ sigIds sg, i ≠ j → ∀ k, gc.S i k → ¬ gc.S j k)
def SaidB (P : Program) (sg : Sig) (f : Nat) (t : Ty) (u : t.den) (as : List AV) (r : Ret) : Prop :=
  ∀ (w : World) (ok : Nat → Prop) (vs : List Value) (blk : Nat) (cs : List Value) (ty : TypeId), w.heap[blk]? = some (.cells cs.toArray ty (0, 0)) → ¬ ok blk → Kd.FK t.kd w ok u cs → AVRs w ok as vs →
    Calls P f (Value.pointer (some ⟨blk, 0, none⟩) :: vs).toArray w fun e w' => match e with
      | .returned v => PostB sg w ok blk t r v w'
      | _ => False
/-- A function that hands back a pointer to a new variable. -/
def PostN (w : World) (ok : Nat → Prop) (r : Ret) (v : Value) (w' : World) : Prop :=
  ∃ (t : Ty) (y : t.den) (blk : Nat) (cs : List Value) (ty : TypeId), r = [⟨t, y⟩] ∧ Below w.heap.size w w' ∧ v = .pointer (some ⟨blk, 0, none⟩) ∧ w.heap.size ≤ blk ∧ w'.heap[blk]? = some (.cells cs.toArray ty (0, 0)) ∧
    Kd.FK t.kd w' (fun k => (ok k ∨ w.heap.size ≤ k) ∧ k ≠ blk) y cs
def SaidN (P : Program) (f : Nat) (as : List AV) (r : Ret) : Prop :=
  ∀ (w : World) (ok : Nat → Prop) (vs : List Value), AVRs w ok as vs → Calls P f vs.toArray w fun e w' => match e with
    | .returned v => PostN w ok r v w'
    | _ => False
/-- All of its slices are own rows. -/
def allOwn : Ty → Mk → Bool
  | .slice _ _, .own _ => true
  | .slice _ _, _ => false
  | .pair a b, .pair p q => allOwn a p && allOwn b q
  | .pair _ _, _ => false
  | _, _ => true
/-- A function that is given own rows of its caller: it may write into them, and its results may lie in them. -/
def avIds : List AV → List Nat
  | .lend t _ m :: r => idsT t m ++ avIds r
  | _ :: r => avIds r
  | [] => []
def AVRg (gm : Gh) (w : World) (ok : Nat → Prop) : AV → Value → Prop
  | .lend t u m, v => allOwn t m = true ∧ ∃ cs, v = valOf t cs ∧ VR gm (fun _ => true) w (fun _ => False) t u m cs ∧ OwnR gm w t u m
  | a, v => AVR w ok a v
def AVRgs (gm : Gh) (w : World) (ok : Nat → Prop) : List AV → List Value → Prop
  | [], vs => vs = []
  | a :: r, vs => ∃ v vs', vs = v :: vs' ∧ AVRg gm w ok a v ∧ AVRgs gm w ok r vs'
def PtrPost (w' : World) (okG : Nat → Prop) : Option (Nat × Ty) → Ret → Ret → Prop
  | none, r, rs => r = rs
  | some (blk, t), r, rs => ∃ (y : t.den) (cs : List Value) (ty : TypeId), r = ⟨t, y⟩ :: rs ∧ w'.heap[blk]? = some (.cells cs.toArray ty (0, 0)) ∧ Kd.FK t.kd w' okG y cs
def PostG (sg : Sig) (w : World) (ok X : Nat → Prop) (ptr : Option (Nat × Ty)) (r : Ret) (v : Value) (w' : World) : Prop :=
  ∃ (rs : Ret) (gc : Gh) (vs : List Value), PtrPost w' (okP gc (sigIds sg) w (fun k => ok k ∨ X k)) ptr r rs ∧ w'.os = w.os ∧ w'.tape = w.tape ∧ w'.output = w.output ∧ w.heap.size ≤ w'.heap.size ∧
    (∀ k, k < w.heap.size → ¬ X k → (∀ b t, ptr = some (b, t) → k ≠ b) → w'.heap[k]? = w.heap[k]?) ∧
    v = tupled vs ∧ ResR gc w' (okP gc (sigIds sg) w (fun k => ok k ∨ X k)) sg rs vs ∧ (∀ j ∈ sigIds sg, (gc.ρ j).oneCell' = true ∧ ∀ k, gc.S j k → (X k ∨ w.heap.size ≤ k) ∧ k < w'.heap.size) ∧
    (∀ i ∈ sigIds sg, ∀ j ∈ sigIds sg, i ≠ j → ∀ k, gc.S i k → ¬ gc.S j k)
def SaidG (P : Program) (sg : Sig) (f : Nat) (t : Ty) (u : t.den) (as : List AV) (r : Ret) : Prop :=
  ∀ (w : World) (ok : Nat → Prop) (vs : List Value) (blk : Nat) (cs : List Value) (ty : TypeId) (gm : Gh), w.heap[blk]? = some (.cells cs.toArray ty (0, 0)) → ¬ ok blk → Kd.FK t.kd w ok u cs → AVRgs gm w ok as vs →
    LentOk gm w (avIds as) → (∀ k, LentS gm (avIds as) k → ¬ ok k ∧ k ≠ blk) →
    Calls P f (Value.pointer (some ⟨blk, 0, none⟩) :: vs).toArray w fun e w' => match e with
      | .returned v => PostG sg w ok (LentS gm (avIds as)) (some (blk, t)) r v w'
      | _ => False
def SaidW (P : Program) (sg : Sig) (f : Nat) (as : List AV) (r : Ret) : Prop :=
  ∀ (w : World) (ok : Nat → Prop) (vs : List Value) (gm : Gh), AVRgs gm w ok as vs → LentOk gm w (avIds as) → (∀ k, LentS gm (avIds as) k → ¬ ok k) →
    Calls P f vs.toArray w fun e w' => match e with
      | .returned v => PostG sg w ok (LentS gm (avIds as)) none r v w'
      | _ => False
structure Told (P : Program) (sg : Sig) (f : Nat) (as : List AV) (q : Ret) : Prop where
  said : Said P sg f as q
  m : ∀ (t : Ty) (u : t.den) (m : Mk) (k : Int), isMark m = false → t.beq .bool = false → as = [.lend t u m, .val (.int .i64) k] → SaidM P f t u m k q
  n : ∀ (t : Ty) (u : t.den) (l : List AV), as = .lend t u .nil :: l → SaidN P f l q
  g : ∀ (t : Ty) (u : t.den) (l : List AV), as = .lend t u .no :: l → SaidG P sg f t u l q
  v : ∀ (l : List AV), as = givenMark :: l → SaidW P sg f l q
  s : ∀ (t : Ty) (u : t.den) (m : Mk), isMark m = false → t.beq .bool = false → as = [.lend t u m] → SaidS P f t u m q

section
variable {P : Program} {T : Tab} {G : Sigs} {F : Fx} {g : Gh} {st : St} {a : Act} {w w' : World} {o : Oper} {d : Nat} {l : List Nat} {wr : Wr} {D : Nat → Bool} {ok ok' : Nat → Prop}
theorem ResR_ok {gc : Gh} {ok ok' : Nat → Prop} (ho : ∀ k, ok k → k < w.heap.size → ok' k) : ∀ {sg : Sig} {r : Ret} {vs : List Value}, ResR gc w ok sg r vs → ResR gc w ok' sg r vs
  | [], [], _, h => h
  | [], _ :: _, _, h => h.elim
  | _ :: _, [], _, h => h.elim
  | (t, m) :: ms, ⟨t', x⟩ :: ds, vs, h => by
    obtain ⟨e, cs, vs', h1, h2, h3, h4⟩ := h
    exact ⟨e, cs, vs', h1, VR_ok ho h2, h3, ResR_ok ho h4⟩
theorem AVRs.given : ∀ {as : List AV} {vs : List Value}, AVRs w ok as vs → avIds as = [] ∧ AVRgs g w ok as vs
  | [], vs, h => ⟨rfl, h⟩
  | x :: as, vs, h => by
    simp only [AVRs] at h
    obtain ⟨v, vs', e, h1, h2⟩ := h
    obtain ⟨h3, h4⟩ := AVRs.given h2
    cases x with
    | lend t u m => exact h1.elim
    | val t x => exact ⟨h3, v, vs', e, h1, h4⟩
    | ref t x => exact ⟨h3, v, vs', e, h1, h4⟩
    | clo f c => exact ⟨h3, v, vs', e, h1, h4⟩
    | nil e' t => exact ⟨h3, v, vs', e, h1, h4⟩
theorem SaidG.toB {sg : Sig} {f : Nat} {t : Ty} {u : t.den} {as : List AV} {r : Ret} (h : SaidG P sg f t u as r) : SaidB P sg f t u as r := by
  intro w ok vs blk cs ty hh hnok hfk hav
  obtain ⟨h1, h2⟩ := hav.given (g := ⟨fun _ => 0, fun _ => .bool, fun _ => undef, fun _ => .bool, fun _ _ => False⟩)
  have hX : ∀ k, ¬ LentS ⟨fun _ => 0, fun _ => .bool, fun _ => undef, fun _ => .bool, fun _ _ => False⟩ (avIds as) k := by
    rintro k ⟨j, hj, _⟩
    rw [h1] at hj
    cases hj
  refine Calls.mono (h w ok vs blk cs ty _ hh hnok hfk h2 (by rw [h1]; exact ⟨fun j hj => (by cases hj), fun j hj => (by cases hj)⟩) (fun k hk => (hX k hk).elim)) ?_
  intro e w' he
  cases e with
  | returned v =>
    obtain ⟨rs, gc, vs', ⟨y, cs', ty', q1, q2, q3⟩, q4, q5, q6, q7, q8, q9, q10, q11, q12⟩ := he
    have hok : ∀ k, okP gc (sigIds sg) w (fun k => ok k ∨ LentS ⟨fun _ => 0, fun _ => .bool, fun _ => undef, fun _ => .bool, fun _ _ => False⟩ (avIds as) k) k → okP gc (sigIds sg) w ok k := fun k hk => ⟨hk.1.imp (fun h => h.resolve_right (hX k)) id, hk.2⟩
    refine ⟨y, rs, gc, vs', cs', ty', q1, q4, q5, q6, q7, fun k hk hne => q8 k hk (hX k) (fun b t e => ?_), q2, Foot.mono q3 hok, q9, ResR_ok (fun k hk _ => hok k hk) q10, fun j hj => ⟨(q11 j hj).1, fun k hk => ⟨((q11 j hj).2 k hk).1.resolve_left (hX k), ((q11 j hj).2 k hk).2⟩⟩, q12⟩
    injection e with e
    injection e with e _
    rw [← e]
    exact hne
  | panicked ch => exact he.elim
  | outgrown => exact he.elim

def zipM (R : Nat → Nat → Prop) : Ty → Mk → Mk → Prop
  | .slice _ _, .own r, .own j => R j r
  | .slice _ _, _, _ => False
  | .pair a b, m, .pair p q => zipM R a m.fst p ∧ zipM R b m.snd q
  | .pair _ _, _, _ => False
  | _, _, _ => True
theorem zipM.imp {R R' : Nat → Nat → Prop} (h : ∀ j r, R j r → R' j r) : ∀ {t : Ty} {m m' : Mk}, zipM R t m m' → zipM R' t m m'
  | .slice _ _, .own r, .own j, hz => h _ _ hz
  | .slice _ _, .own r, .no, hz => hz.elim
  | .slice _ _, .own r, .nil, hz => hz.elim
  | .slice _ _, .own r, .pair _ _, hz => hz.elim
  | .slice _ _, .no, _, hz => hz.elim
  | .slice _ _, .nil, _, hz => hz.elim
  | .slice _ _, .pair _ _, _, hz => hz.elim
  | .pair a b, m, .pair p q, hz => ⟨zipM.imp h hz.1, zipM.imp h hz.2⟩
  | .pair _ _, _, .no, hz => hz.elim
  | .pair _ _, _, .nil, hz => hz.elim
  | .pair _ _, _, .own _, hz => hz.elim
  | .int _, _, _, _ => trivial
  | .bool, _, _, _ => trivial
  | .str, _, _, _ => trivial
theorem canonT_zip : ∀ {t : Ty} {m m' : Mk} {n n' : Nat}, canonT t m n = some (m', n') →
    n' = n + (idsT t m).length ∧ idsT t m' = List.range' n (idsT t m).length ∧ ∀ (pre post : List Nat), pre.length = n → zipM (fun j r => (pre ++ idsT t m ++ post)[j]? = some r) t m m'
  | .slice _ _, .own r, m', n, n', h => by
    injection h with h
    injection h with h1 h2
    subst h1
    subst h2
    refine ⟨rfl, rfl, fun pre post hp => ?_⟩
    subst hp
    show (pre ++ [r] ++ post)[pre.length]? = some r
    simp
  | .slice _ _, .no, m', n, n', h => by cases h
  | .slice _ _, .nil, m', n, n', h => by cases h
  | .slice _ _, .pair _ _, m', n, n', h => by cases h
  | .pair a b, m, m', n, n', h => by
    unfold canonT at h
    split at h
    · rename_i m1 n1 h1
      split at h
      · rename_i m2 n2 h2
        injection h with h
        injection h with e1 e2
        subst e1
        subst e2
        obtain ⟨a1, a2, a3⟩ := canonT_zip h1
        obtain ⟨b1, b2, b3⟩ := canonT_zip h2
        refine ⟨?_, ?_, fun pre post hp => ⟨?_, ?_⟩⟩
        · show n2 = n + (idsT a m.fst ++ idsT b m.snd).length
          rw [List.length_append]; omega
        · show idsT a m1 ++ idsT b m2 = List.range' n (idsT a m.fst ++ idsT b m.snd).length
          rw [a2, b2, List.length_append, a1]
          simp
        · have := a3 pre (idsT b m.snd ++ post) hp
          refine this.imp (fun j r hj => ?_)
          show (pre ++ (idsT a m.fst ++ idsT b m.snd) ++ post)[j]? = some r
          rw [← hj]; simp [List.append_assoc]
        · have := b3 (pre ++ idsT a m.fst) post (by rw [List.length_append, hp, a1])
          refine this.imp (fun j r hj => ?_)
          show (pre ++ (idsT a m.fst ++ idsT b m.snd) ++ post)[j]? = some r
          rw [← hj]; simp [List.append_assoc]
      · cases h
    · cases h
  | .int _, m, m', n, n', h => by
    injection h with h
    injection h with h1 h2
    subst h1
    subst h2
    exact ⟨rfl, rfl, fun _ _ _ => trivial⟩
  | .bool, m, m', n, n', h => by
    injection h with h
    injection h with h1 h2
    subst h1
    subst h2
    exact ⟨rfl, rfl, fun _ _ _ => trivial⟩
  | .str, m, m', n, n', h => by
    injection h with h
    injection h with h1 h2
    subst h1
    subst h2
    exact ⟨rfl, rfl, fun _ _ _ => trivial⟩
theorem zip_VR {R : Nat → Nat → Prop} {gm : Gh} {ok1 : Nat → Prop} (hρ : ∀ j r, R j r → gm.ρ j = g.ρ r) : ∀ {t : Ty} {z : t.den} {m : Mk} {u : t.den} {l : List Nat} {cs : List Value} {m' : Mk},
    (full t z m).run st = some (u, l) → VR g D w ok t z m cs → zipM R t m m' → VR gm (fun _ => true) w ok1 t u m' cs
  | .slice e t, z, .own r, u, l, cs, .own j, hf, hv, hz => by
    simp only [VR] at hv ⊢
    exact ⟨by rw [hρ _ _ hz]; exact hv.1, trivial⟩
  | .slice _ _, z, .own r, u, l, cs, .no, hf, hv, hz => hz.elim
  | .slice _ _, z, .own r, u, l, cs, .nil, hf, hv, hz => hz.elim
  | .slice _ _, z, .own r, u, l, cs, .pair _ _, hf, hv, hz => hz.elim
  | .slice _ _, z, .no, u, l, cs, _, hf, hv, hz => hz.elim
  | .slice _ _, z, .nil, u, l, cs, _, hf, hv, hz => hz.elim
  | .slice _ _, z, .pair _ _, u, l, cs, _, hf, hv, hz => hz.elim
  | .pair a b, z, m, u, l, cs, .pair p q, hf, hv, hz => by
    obtain ⟨⟨l1, h1⟩, ⟨l2, h2⟩⟩ := full_pair hf
    have hv' := VR_pair hv
    simp only [VR]
    exact ⟨_, _, (List.take_append_drop a.sz cs).symm, zip_VR hρ h1 hv'.1 hz.1, zip_VR hρ h2 hv'.2 hz.2⟩
  | .pair _ _, z, _, u, l, cs, .no, hf, hv, hz => hz.elim
  | .pair _ _, z, _, u, l, cs, .nil, hf, hv, hz => hz.elim
  | .pair _ _, z, _, u, l, cs, .own _, hf, hv, hz => hz.elim
  | .int _, z, _, u, l, cs, _, hf, hv, hz => by simp only [full] at hf; obtain rfl := run_ret hf; simp only [VR] at hv ⊢; exact FK_flat rfl hv
  | .bool, z, _, u, l, cs, _, hf, hv, hz => by simp only [full] at hf; obtain rfl := run_ret hf; simp only [VR] at hv ⊢; exact FK_flat rfl hv
  | .str, z, _, u, l, cs, _, hf, hv, hz => by simp only [full] at hf; obtain rfl := run_ret hf; simp only [VR] at hv ⊢; exact FK_flat rfl hv
theorem zip_own {R : Nat → Nat → Prop} {gm : Gh} (h : Rel F g st a w) (hR : ∀ j r, R j r → gm.σ j = g.σ r ∧ gm.S j = g.S r ∧ gm.ρ j = g.ρ r) : ∀ {t : Ty} {z : t.den} {m : Mk} {u : t.den} {l : List Nat} {m' : Mk},
    (full t z m).run st = some (u, l) → zipM R t m m' → OwnR gm w t u m'
  | .slice e t, z, .own r, u, l, .own j, hf, hz => by
    simp only [full] at hf
    obtain ⟨v, l', h1, h2, _⟩ := run_rd hf
    split at h2
    · rename_i e' t' xs
      split at h2
      · rename_i y hy
        obtain rfl := run_ret h2
        obtain ⟨e1, e2⟩ := cast_some hy
        injection e1 with e0 e1
        subst e1
        subst e0
        cases e2
        obtain ⟨q1, q2⟩ := h.rowS h1
        obtain ⟨r1, r2, r3⟩ := hR _ _ hz
        refine ⟨r1.trans q1, ?_⟩
        rw [r2, r3]
        exact q2
      · exact (run_fail h2).elim
    · exact (run_fail h2).elim
  | .slice _ _, z, .own r, u, l, .no, hf, hz => hz.elim
  | .slice _ _, z, .own r, u, l, .nil, hf, hz => hz.elim
  | .slice _ _, z, .own r, u, l, .pair _ _, hf, hz => hz.elim
  | .slice _ _, z, .no, u, l, _, hf, hz => hz.elim
  | .slice _ _, z, .nil, u, l, _, hf, hz => hz.elim
  | .slice _ _, z, .pair _ _, u, l, _, hf, hz => hz.elim
  | .pair a b, z, m, u, l, .pair p q, hf, hz => by
    obtain ⟨⟨l1, h1⟩, ⟨l2, h2⟩⟩ := full_pair hf
    exact ⟨zip_own h hR h1 hz.1, zip_own h hR h2 hz.2⟩
  | .pair _ _, z, _, u, l, .no, hf, hz => hz.elim
  | .pair _ _, z, _, u, l, .nil, hf, hz => hz.elim
  | .pair _ _, z, _, u, l, .own _, hf, hz => hz.elim
  | .int _, z, _, u, l, _, hf, hz => trivial
  | .bool, z, _, u, l, _, hf, hz => trivial
  | .str, z, _, u, l, _, hf, hz => trivial
theorem rowsOf_get {R : Nat → Nat → Prop} {gm gc : Gh} {w0 : World} : ∀ {t : Ty} {u y : t.den} {m m' : Mk}, zipM R t m m' → OwnR gm w0 t u m' → OwnR gc w' t y m' → ∀ p ∈ rowsOf t y m, ∃ j r, R j r ∧ r ∈ idsT t m ∧ j ∈ idsT t m' ∧ p.1 = kR r ∧ ∃ e t xs, p.2 = some (.row e t xs) ∧ RowR gc w' j e t xs ∧ gm.σ j = t
  | .slice e t, u, y, .own r, .own j, hz, h0, h1, p, hp => by
    have := List.mem_singleton.1 hp
    subst this
    exact ⟨j, r, hz, by simp [idsT], by simp [idsT], rfl, e, t, y, rfl, h1, h0.1⟩
  | .slice _ _, u, y, .own r, .no, hz, _, _, p, hp => hz.elim
  | .slice _ _, u, y, .own r, .nil, hz, _, _, p, hp => hz.elim
  | .slice _ _, u, y, .own r, .pair _ _, hz, _, _, p, hp => hz.elim
  | .slice _ _, u, y, .no, _, hz, _, _, p, hp => hz.elim
  | .slice _ _, u, y, .nil, _, hz, _, _, p, hp => hz.elim
  | .slice _ _, u, y, .pair _ _, _, hz, _, _, p, hp => hz.elim
  | .pair a b, u, y, m, .pair m1 m2, hz, h0, h1, p, hp => by
    rcases List.mem_append.1 hp with hp | hp
    · obtain ⟨j, r, a1, a2, a3, a4⟩ := rowsOf_get hz.1 h0.1 h1.1 p hp
      exact ⟨j, r, a1, List.mem_append.2 (.inl a2), List.mem_append.2 (.inl a3), a4⟩
    · obtain ⟨j, r, a1, a2, a3, a4⟩ := rowsOf_get hz.2 h0.2 h1.2 p hp
      exact ⟨j, r, a1, List.mem_append.2 (.inr a2), List.mem_append.2 (.inr a3), a4⟩
  | .pair _ _, u, y, _, .no, hz, _, _, p, hp => hz.elim
  | .pair _ _, u, y, _, .nil, hz, _, _, p, hp => hz.elim
  | .pair _ _, u, y, _, .own _, hz, _, _, p, hp => hz.elim
  | .int _, u, y, _, _, hz, _, _, p, hp => (List.not_mem_nil hp).elim
  | .bool, u, y, _, _, hz, _, _, p, hp => (List.not_mem_nil hp).elim
  | .str, u, y, _, _, hz, _, _, p, hp => (List.not_mem_nil hp).elim
theorem rowsOf_dom : ∀ {t : Ty} {y : t.den} {m : Mk}, ∀ r ∈ idsT t m, ∃ v, (kR r, v) ∈ rowsOf t y m
  | .slice e t, y, .own r, q, hq => by
    have := List.mem_singleton.1 hq
    subst this
    exact ⟨_, List.mem_singleton.2 rfl⟩
  | .slice _ _, y, .no, q, hq => (List.not_mem_nil hq).elim
  | .slice _ _, y, .nil, q, hq => (List.not_mem_nil hq).elim
  | .slice _ _, y, .pair _ _, q, hq => (List.not_mem_nil hq).elim
  | .pair a b, y, m, q, hq => by
    rcases List.mem_append.1 hq with hq | hq
    · obtain ⟨v, hv⟩ := rowsOf_dom (y := y.1) q hq
      exact ⟨v, List.mem_append.2 (.inl hv)⟩
    · obtain ⟨v, hv⟩ := rowsOf_dom (y := y.2) q hq
      exact ⟨v, List.mem_append.2 (.inr hv)⟩
  | .int _, y, _, q, hq => (List.not_mem_nil hq).elim
  | .bool, y, _, q, hq => (List.not_mem_nil hq).elim
  | .str, y, _, q, hq => (List.not_mem_nil hq).elim
theorem idx_of : ∀ {L : List Nat} {j r : Nat}, nodup L = true → L[j]? = some r → L.idxOf r = j
  | [], j, r, _, h => by simp at h
  | b :: L, 0, r, _, h => by
    have h : some b = some r := by simpa using h
    injection h with h
    subst h
    simp
  | b :: L, j + 1, r, hn, h => by
    simp only [nodup, Bool.and_eq_true, Bool.not_eq_true'] at hn
    have h' : L[j]? = some r := by simpa using h
    have hm : r ∈ L := List.mem_of_getElem? h'
    have hne : b ≠ r := fun e => by
      rw [e] at hn
      have : L.contains r = true := by simpa using hm
      rw [this] at hn
      exact Bool.noConfusion hn.1
    rw [List.idxOf_cons]
    have e : (b == r) = false := by simpa using hne
    rw [e, idx_of hn.2 h']
    rfl

theorem Rel.marked0 (h : Rel F g st a w) (hd : F.slot d) {tv : TV} {v0 : Value} (htv : ∀ g D w ok, TVR g D w ok tv v0) {L : List Nat} {rows : Wr} {S' : Nat → Nat → Prop}
    (hrT : ∀ i, dom rows (kT i) = false) (hrB : ∀ b, dom rows (kB b) = false) (hrR : ∀ q, dom rows (kR q) = true ↔ q ∈ L) (hal : ∀ q ∈ L, Alive st (kR q))
    (hos : w'.os = w.os) (htp : w'.tape = w.tape) (hout : w'.output = w.output) (hgrow : w.heap.size ≤ w'.heap.size)
    (hfr : ∀ k, k < w.heap.size → ¬ (∃ q ∈ L, g.S q k) → w'.heap[k]? = w.heap[k]?)
    (hrow : ∀ q v, get rows (kR q) = some v → ∃ e t xs, v = .row e t xs ∧ g.σ q = t ∧ Kd.S t.kd e w' 0 (S' q) (g.ρ q) xs)
    (hS : ∀ q v, get rows (kR q) = some v → ∀ k, S' q k → ((∃ q ∈ L, g.S q k) ∨ w.heap.size ≤ k) ∧ k < w'.heap.size)
    (hap : ∀ q q' v v', get rows (kR q) = some v → get rows (kR q') = some v' → q ≠ q' → ∀ k, S' q k → ¬ S' q' k) :
    ∃ g', Rel F g' ((rows ++ [(kT d, some (.tv tv))]) ++ st) (a.put (some d) v0) w' := by
  classical
  have hwT : ∀ i, dom (rows ++ [(kT d, some (.tv tv))]) (kT i) = true ↔ i = d := by
    intro i
    rw [dom_app, hrT, Bool.false_or]
    by_cases e : i = d
    · subst e; simp [dom_cons_same]
    · rw [dom_one_ne _ (fun e' => e (kT_inj e').symm)]; simp [e]
  have hwB : ∀ b, dom (rows ++ [(kT d, some (.tv tv))]) (kB b) = false := by
    intro b
    rw [dom_app, hrB, Bool.false_or, dom_one_ne _ (kT_kB d b)]
  have hwR : ∀ q, dom (rows ++ [(kT d, some (.tv tv))]) (kR q) = dom rows (kR q) := by
    intro q
    rw [dom_app, dom_one_ne _ (kT_kR d q), Bool.or_false]
  have hgR : ∀ q v, get (rows ++ [(kT d, some (.tv tv))]) (kR q) = some v → get rows (kR q) = some v ∧ q ∈ L := by
    intro q v hv
    have hdq : dom rows (kR q) = true := by rw [← hwR]; exact dom_of_get hv
    rw [get_app_in hdq] at hv
    exact ⟨hv, (hrR q).1 hdq⟩
  have hin : ∀ {q}, q ∈ L → Alive ((rows ++ [(kT d, some (.tv tv))]) ++ st) (kR q) → ∃ v, get rows (kR q) = some v := by
    intro q hq ha
    rw [alive_app_in (by rw [hwR]; exact (hrR q).2 hq)] at ha
    obtain ⟨v, hv⟩ := ha
    exact ⟨v, (hgR q v hv).1⟩
  have hout' : ∀ {q}, q ∉ L → Alive ((rows ++ [(kT d, some (.tv tv))]) ++ st) (kR q) → Alive st (kR q) := by
    intro q hq ha
    refine (alive_app_out ?_).1 ha
    rw [hwR]
    cases e : dom rows (kR q) with
    | false => rfl
    | true => exact (hq ((hrR q).1 e)).elim
  let g' : Gh := { g with S := fun r => if r ∈ L then S' r else g.S r }
  have hSi : ∀ {q}, q ∈ L → g'.S q = S' q := fun {q} hq => by show (if q ∈ L then S' q else g.S q) = S' q; rw [if_pos hq]
  have hSo : ∀ {q}, q ∉ L → g'.S q = g.S q := fun {q} hq => by show (if q ∈ L then S' q else g.S q) = g.S q; rw [if_neg hq]
  refine ⟨g', h.upd g' _ _ w' (fun k => ∃ q ∈ L, g.S q k) (by rw [put_size, h.size]) (fun i hi => ?_) (by rw [put_defers, h.defers]) hos htp hout hgrow hfr ?_ (fun _ _ => rfl) (fun _ _ => rfl) (fun _ _ => rfl) (fun _ _ => rfl) ?_ ?_ ?_ ?_ ?_ ?_ ?_ ?_ ?_ ?_ ?_ ?_⟩
  · cases e : dom (rows ++ [(kT d, some (.tv tv))]) (kT i) with
    | false => rfl
    | true =>
      have h1 := (hwT i).1 e
      have h2 := hd.1
      omega
  · rintro k ⟨q, hq, hk⟩
    exact .inr ⟨q, hal q hq, hk⟩
  · intro q _ hq
    refine hSo (fun hm => ?_)
    rw [hwR, (hrR q).2 hm] at hq
    cases hq
  · rintro k hk (⟨b, hb, e⟩ | ⟨q, hq, e⟩)
    · exact .inl ⟨b, (alive_app_out (hwB b)).1 hb, e⟩
    · by_cases hm : q ∈ L
      · obtain ⟨v, hv⟩ := hin hm hq
        rw [hSi hm] at e
        rcases (hS q v hv k e).1 with ⟨q', hq', h1⟩ | h1
        · exact .inr ⟨q', hal q' hq', h1⟩
        · omega
      · rw [hSo hm] at e
        exact .inr ⟨q, hout' hm hq, e⟩
  · rintro b hb _ ⟨q, hq, hk⟩
    exact h.dBR b q hb (hal q hq) hk
  · rintro q hq hdq k hk ⟨q', hq', hk'⟩
    refine h.dRR q q' hq (hal q' hq') (fun e => ?_) k hk hk'
    subst e
    rw [hwR, (hrR q).2 hq'] at hdq
    cases hdq
  · intro i hi
    refine put_ne (fun e => ?_)
    rw [(hwT i).2 e] at hi
    cases hi
  · intro _ i v hv
    have e := (hwT i).1 (dom_of_get hv)
    subst e
    rw [get_app_out (hrT i), get_cons_same] at hv
    injection hv with hv
    subst hv
    refine ⟨_, rfl, ?_⟩
    rw [put_same (by rw [h.size]; exact hd.2)]
    exact htv _ _ _ _
  · intro _ b v hv
    have := dom_of_get hv
    rw [hwB b] at this
    cases this
  · intro q v hv
    obtain ⟨hv, hm⟩ := hgR q v hv
    obtain ⟨e, t, xs, e1, e2, e3⟩ := hrow q v hv
    refine ⟨e, t, xs, e1, ⟨e2, ?_⟩, fun k hk => ?_⟩
    · rw [hSi hm]; exact e3
    · rw [hSi hm] at hk
      have := hS q v hv k hk
      refine ⟨?_, this.2⟩
      rcases this.1 with ⟨q', hq', h1⟩ | h1
      · exact (h.newR q' (hal q' hq') k h1).1
      · exact .inl (Nat.le_trans h.grow h1)
  · intro q hq
    rw [hwR] at hq
    exact h.isl q (dom_of_alive (hal q ((hrR q).1 hq)))
  · intro b b' hb hb' e
    exact h.dBB b b' ((alive_app_out (hwB b)).1 hb) ((alive_app_out (hwB b')).1 hb') e
  · intro b q hb hq hk
    have hb' := (alive_app_out (hwB b)).1 hb
    by_cases hm : q ∈ L
    · obtain ⟨v, hv⟩ := hin hm hq
      rw [hSi hm] at hk
      rcases (hS q v hv _ hk).1 with ⟨q', hq', h1⟩ | h1
      · exact h.dBR b q' hb' (hal q' hq') h1
      · have := h.boxLt hb'
        have h1 : w.heap.size ≤ g.β b := h1
        omega
    · rw [hSo hm] at hk
      exact h.dBR b q hb' (hout' hm hq) hk
  · have key : ∀ q q', Alive ((rows ++ [(kT d, some (.tv tv))]) ++ st) (kR q) → Alive ((rows ++ [(kT d, some (.tv tv))]) ++ st) (kR q') → q ∈ L → q' ∉ L → ∀ k, g'.S q k → ¬ g'.S q' k := by
      intro q q' hq hq' hm hm' k hk hk'
      obtain ⟨v, hv⟩ := hin hm hq
      rw [hSi hm] at hk
      rw [hSo hm'] at hk'
      have ha' := hout' hm' hq'
      rcases (hS q v hv _ hk).1 with ⟨q2, hq2, h1⟩ | h1
      · exact h.dRR q2 q' (hal q2 hq2) ha' (fun e => hm' (e ▸ hq2)) k h1 hk'
      · have := (h.newR q' ha' k hk').2
        omega
    intro q q' hq hq' hne k hk hk'
    by_cases hm : q ∈ L
    · by_cases hm' : q' ∈ L
      · obtain ⟨v, hv⟩ := hin hm hq
        obtain ⟨v', hv'⟩ := hin hm' hq'
        rw [hSi hm] at hk
        rw [hSi hm'] at hk'
        exact hap q q' v v' hv hv' hne k hk hk'
      · exact key q q' hq hq' hm hm' k hk hk'
    · by_cases hm' : q' ∈ L
      · exact key q' q hq' hq hm' hm k hk' hk
      · rw [hSo hm] at hk
        rw [hSo hm'] at hk'
        exact h.dRR q q' (hout' hm hq) (hout' hm' hq') hne k hk hk'
theorem Rel.marked (h : Rel F g st a w) (hd : F.slot d) {n : Int} {L : List Nat} {rows : Wr} {S' : Nat → Nat → Prop}
    (hrT : ∀ i, dom rows (kT i) = false) (hrB : ∀ b, dom rows (kB b) = false) (hrR : ∀ q, dom rows (kR q) = true ↔ q ∈ L) (hal : ∀ q ∈ L, Alive st (kR q))
    (hos : w'.os = w.os) (htp : w'.tape = w.tape) (hout : w'.output = w.output) (hgrow : w.heap.size ≤ w'.heap.size)
    (hfr : ∀ k, k < w.heap.size → ¬ (∃ q ∈ L, g.S q k) → w'.heap[k]? = w.heap[k]?)
    (hrow : ∀ q v, get rows (kR q) = some v → ∃ e t xs, v = .row e t xs ∧ g.σ q = t ∧ Kd.S t.kd e w' 0 (S' q) (g.ρ q) xs)
    (hS : ∀ q v, get rows (kR q) = some v → ∀ k, S' q k → ((∃ q ∈ L, g.S q k) ∨ w.heap.size ≤ k) ∧ k < w'.heap.size)
    (hap : ∀ q q' v v', get rows (kR q) = some v → get rows (kR q') = some v' → q ≠ q' → ∀ k, S' q k → ¬ S' q' k) :
    ∃ g', Rel F g' ((rows ++ [(kT d, some (.tv (.v (.int .i64) n .no)))]) ++ st) (a.put (some d) (.int .i64 n)) w' :=
  h.marked0 hd (tv := .v (.int .i64) n .no) (v0 := .int .i64 n) (fun g D w ok => by simp only [TVR]; exact ⟨[.int .i64 n], rfl, VR_no.2 (fun _ _ => rfl)⟩) hrT hrB hrR hal hos htp hout hgrow hfr hrow hS hap
theorem canonT_bool : ∀ {t : Ty} {m m' : Mk} {n n' : Nat}, canonT t m n = some (m', n') → isMark m' = false → t.beq .bool = false
  | .slice _ _, _, _, _, _, _, _ => rfl
  | .pair _ _, _, _, _, _, _, _ => rfl
  | .int _, _, _, _, _, _, _ => rfl
  | .str, _, _, _, _, _, _ => rfl
  | .bool, m, m', n, n', h, h2 => by
    injection h with h
    injection h with h1 _
    subst h1
    cases h2

theorem op_goM (h : Rel F g st a w) {c : Call} {gn : Nat} (ho : o.op = .call c) (hc : c.callee = .value (.func gn)) (hn : ∀ d, o.dst = some d → F.slot d) {fn : Nat} {as : List AV} {post : Ret → Wr}
    (hr : (goEffM T G o gn c.args.toList c.argTypes.toList).run st = some (.call fn as post, l)) {r : Ret} (hS : ∀ sg, G fn = some sg → Told P sg fn as r) : OpOk P F o st (post r) a w := by
  classical
  unfold goEffM at hr
  split at hr
  · rename_i d x k hd hxs
    split at hr
    · rename_i sg hsg
      obtain ⟨v, l1, l2, h1, h2, _⟩ := run_bind hr
      split at h2
      · rename_i t z m
        obtain ⟨n, l3, l4, h3, h4, _⟩ := run_bind h2
        obtain ⟨u, l5, l6, h5, h6, _⟩ := run_bind h4
        split at h6
        · rename_i m0 n0 hcan
          obtain ⟨hnd, h7⟩ := run_chk h6
          simp only [Bool.and_eq_true, Bool.not_eq_true'] at hnd
          obtain ⟨hnd, hmk⟩ := hnd
          have := run_ret h7
          injection this with e1 e2 e3
          subst e1
          subst e2
          subst e3
          obtain ⟨fn, hfn, hname, hbody⟩ := (hS sg hsg).said.1
          have hM := (hS sg hsg).m
          have hM := hM t u m0 n hmk (canonT_bool hcan hmk) rfl
          obtain ⟨_, hids, hzip⟩ := canonT_zip hcan
          have hzip := hzip [] [] rfl
          have hzip : zipM (fun j r => (idsT t m)[j]? = some r) t m m0 := hzip.imp (fun j r hj => by simpa using hj)
          have hx := evt_TV h h1
          simp only [TVR] at hx
          obtain ⟨cs, hx, hv⟩ := hx
          have hk := num64_TV h h3
          let gm : Gh := { g with ρ := fun j => g.ρ ((idsT t m).getD j 0), σ := fun j => g.σ ((idsT t m).getD j 0), S := fun j => g.S ((idsT t m).getD j 0) }
          have hgm : ∀ j r, (idsT t m)[j]? = some r → gm.σ j = g.σ r ∧ gm.S j = g.S r ∧ gm.ρ j = g.ρ r := by
            intro j r hj
            have e : (idsT t m).getD j 0 = r := by rw [List.getD_eq_getElem?_getD, hj]; rfl
            exact ⟨by show g.σ _ = _; rw [e], by show g.S _ = _; rw [e], by show g.ρ _ = _; rw [e]⟩
          have hj2 : ∀ j ∈ idsT t m0, ∃ r, (idsT t m)[j]? = some r ∧ r ∈ idsT t m := by
            intro j hj
            rw [hids] at hj
            have hj : j < (idsT t m).length := by simpa using hj
            exact ⟨_, List.getElem?_eq_getElem hj, List.getElem_mem hj⟩
          have hr2 : ∀ r ∈ idsT t m, ∃ j ∈ idsT t m0, (idsT t m)[j]? = some r := by
            intro r hr
            obtain ⟨j, hj⟩ := List.getElem?_of_mem hr
            refine ⟨j, ?_, hj⟩
            rw [hids]
            have := (List.getElem?_eq_some_iff.1 hj).1
            simpa using this
          have hal := full_alive h5
          have hown := zip_own (gm := gm) h hgm h5 hzip
          have hLS : ∀ k, LentS gm (idsT t m0) k ↔ ∃ q ∈ idsT t m, g.S q k := by
            intro k
            constructor
            · rintro ⟨j, hj, hk⟩
              obtain ⟨r, hr, hm⟩ := hj2 j hj
              exact ⟨r, hm, by rw [← (hgm j r hr).2.1]; exact hk⟩
            · rintro ⟨r, hr, hk⟩
              obtain ⟨j, hj, he⟩ := hr2 r hr
              exact ⟨j, hj, by rw [(hgm j r he).2.1]; exact hk⟩
          have hlo : LentOk gm w (idsT t m0) := by
            refine ⟨fun j hj => ?_, fun i hi j hj hne k hk hk' => ?_⟩
            · obtain ⟨r, hr, hm⟩ := hj2 j hj
              obtain ⟨_, q2, q3⟩ := hgm j r hr
              rw [q2, q3]
              exact ⟨h.isl r (dom_of_alive (hal r hm)), fun k hk => (h.newR r (hal r hm) k hk).2⟩
            · obtain ⟨r, hr, hm⟩ := hj2 i hi
              obtain ⟨r', hr', hm'⟩ := hj2 j hj
              rw [(hgm i r hr).2.1] at hk
              rw [(hgm j r' hr').2.1] at hk'
              refine h.dRR r r' (hal r hm) (hal r' hm') (fun e => hne ?_) k hk hk'
              subst e
              rw [← idx_of hnd hr, ← idx_of hnd hr']
          have hargs : c.args.map a.eval = #[valOf t cs, .int .i64 n] := by
            apply Array.ext'
            simp [hxs, hx, hk]
          have hf : a.eval (.func gn) = .func (.func gn) #[] #[] := by
            have hf := ev_TV h (x := .func gn) (tv := .clo gn []) (l := []) rfl
            simp only [TVR, TVRs] at hf
            obtain ⟨vs, ef, hvs⟩ := hf
            rw [ef, hvs]
          have hrun : (execOp a.eval o).run P w = .ok (.enter gn #[valOf t cs, .int .i64 n]) w := by
            have hname' : ¬ fn.name = "runtime.NumGoroutine" := fun e => by rw [e] at hname; simp at hname
            have hbody' : ¬ fn.body = none := fun e => by rw [e] at hbody; cases hbody
            simp [execOp, ho, resolve, hc, hf, Deferred.ofValue, invoke, callFunc, hfn, hname', hbody', hargs]
          intro ops Kc Q hw hK
          unfold Oper.wp
          rw [hrun, Oper.upon_enter]
          refine Calls.mono (hM w gm cs (zip_VR (g := g) (fun j r hj => (hgm j r hj).2.2) h5 hv hzip) hown hlo) ?_
          intro e w' he
          cases e with
          | returned v' =>
            obtain ⟨n', t', y, hrr, hv', q1, q2, q3, q4, q5, q6⟩ := he
            show Kc (a.put o.dst v') w'
            rw [hd, hv']
            rw [hrr] at hK
            show Kc (a.put (some d) (.int .i64 n')) w'
            have hfr : ∀ k, k < w.heap.size → ¬ (∃ q ∈ idsT t m, g.S q k) → w'.heap[k]? = w.heap[k]? := fun k hk hn => q5 k hk (fun hl => hn ((hLS k).1 hl))
            have fin : ∃ g', Rel F g' (postM d t m [⟨.int .i64, n'⟩, ⟨t', y⟩] ++ st) (a.put (some d) (.int .i64 n')) w' := by
              show ∃ g', Rel F g' ((keptRows t m t' y ++ [(kT d, some (.tv (.v (.int .i64) n' .no)))]) ++ st) (a.put (some d) (.int .i64 n')) w'
              unfold keptRows
              split
              · rename_i y' hy
                obtain ⟨e1, e2⟩ := cast_some hy
                subst e1
                have e2 : y = y' := e2
                subst e2
                obtain ⟨gc, p1, p2, p3⟩ := q6 rfl
                have p1 : OwnR gc w' t' y m0 := p1
                have hg := rowsOf_get hzip hown p1
                have hkey : ∀ k, dom (rowsOf t' y m) k = true → ∃ r ∈ idsT t' m, k = kR r := by
                  intro k hk
                  obtain ⟨v, hv⟩ := dom_mem.1 hk
                  obtain ⟨j, r, _, hm, _, e, _⟩ := hg _ hv
                  exact ⟨r, hm, e⟩
                have hget : ∀ q v, get (rowsOf t' y m) (kR q) = some v → ∃ j, (idsT t' m)[j]? = some q ∧ j ∈ idsT t' m0 ∧ (idsT t' m).idxOf q = j ∧ ∃ e t xs, v = .row e t xs ∧ RowR gc w' j e t xs ∧ gm.σ j = t := by
                  intro q v hv
                  obtain ⟨j, r, a1, a2, a3, a4, e, t, xs, a5, a6, a7⟩ := hg _ (get_mem hv)
                  have : q = r := kR_inj a4
                  subst this
                  injection a5 with a5
                  exact ⟨j, a1, a3, idx_of hnd a1, e, t, xs, a5, a6, a7⟩
                refine h.marked (hn d hd) (S' := fun q => gc.S ((idsT t' m).idxOf q)) ?_ ?_ ?_ hal q1 q2 q3 q4 hfr ?_ ?_ ?_
                · intro i
                  cases e : dom (rowsOf t' y m) (kT i) with
                  | false => rfl
                  | true => obtain ⟨r, _, e⟩ := hkey _ e; exact (kT_kR _ _ e).elim
                · intro i
                  cases e : dom (rowsOf t' y m) (kB i) with
                  | false => rfl
                  | true => obtain ⟨r, _, e⟩ := hkey _ e; exact (kB_kR _ _ e).elim
                · intro q
                  constructor
                  · intro e
                    obtain ⟨r, hm, e⟩ := hkey _ e
                    rw [kR_inj e]; exact hm
                  · intro hm
                    obtain ⟨v, hv⟩ := rowsOf_dom (y := y) q hm
                    exact dom_mem.2 ⟨v, hv⟩
                · intro q v hv
                  obtain ⟨j, a1, a2, a3, e, t, xs, a4, a5, a6⟩ := hget q v hv
                  obtain ⟨b1, b2, b3⟩ := hgm j q a1
                  refine ⟨e, t, xs, a4, by rw [← b1]; exact a6, ?_⟩
                  show Kd.S t.kd e w' 0 (gc.S ((idsT t' m).idxOf q)) (g.ρ q) xs
                  rw [a3, ← b3, ← (p2 j a2).1]
                  exact a5.2
                · intro q v hv k hk
                  obtain ⟨j, a1, a2, a3, _⟩ := hget q v hv
                  have hk : gc.S ((idsT t' m).idxOf q) k := hk
                  rw [a3] at hk
                  have := (p2 j a2).2 k hk
                  exact ⟨this.1.imp (fun hl => (hLS k).1 hl) id, this.2⟩
                · intro q q' v v' hv hv' hne k hk hk'
                  obtain ⟨j, a1, a2, a3, _⟩ := hget q v hv
                  obtain ⟨j', b1, b2, b3, _⟩ := hget q' v' hv'
                  have hk : gc.S ((idsT t' m).idxOf q) k := hk
                  have hk' : gc.S ((idsT t' m).idxOf q') k := hk'
                  rw [a3] at hk
                  rw [b3] at hk'
                  refine p3 j a2 j' b2 (fun e => hne ?_) k hk hk'
                  subst e
                  rw [a1] at b1
                  injection b1
              · have hnone : ∀ q v, get (drops (idsT t m)) (kR q) = some v → False := by
                  intro q v hv
                  rw [drops_none] at hv
                  cases hv
                refine h.marked (hn d hd) (S' := fun _ _ => False) ?_ ?_ ?_ hal q1 q2 q3 q4 hfr ?_ ?_ ?_
                · intro i
                  cases e : dom (drops (idsT t m)) (kT i) with
                  | false => rfl
                  | true => obtain ⟨r, _, e⟩ := drops_only e; exact (kT_kR _ _ e).elim
                · intro i
                  cases e : dom (drops (idsT t m)) (kB i) with
                  | false => rfl
                  | true => obtain ⟨r, _, e⟩ := drops_only e; exact (kB_kR _ _ e).elim
                · intro q
                  constructor
                  · intro e
                    obtain ⟨r, hm, e⟩ := drops_only e
                    rw [kR_inj e]; exact hm
                  · exact fun hm => drops_dom hm
                · intro q v hv; exact (hnone q v hv).elim
                · intro q v hv; exact (hnone q v hv).elim
                · intro q q' v v' hv; exact (hnone q v hv).elim
            obtain ⟨g', hg'⟩ := fin
            exact hK g' _ _ hg'
          | panicked ch => exact he.elim
          | outgrown => exact he.elim
        · exact (run_fail h6).elim
      · exact (run_fail h2).elim
    · exact (run_fail hr).elim
  · exact (run_fail hr).elim
theorem op_goS (h : Rel F g st a w) {c : Call} {gn : Nat} (ho : o.op = .call c) (hc : c.callee = .value (.func gn)) (hn : ∀ d, o.dst = some d → F.slot d) {fn : Nat} {as : List AV} {post : Ret → Wr}
    (hr : (goEffS T G o gn c.args.toList c.argTypes.toList).run st = some (.call fn as post, l)) {r : Ret} (hS : ∀ sg, G fn = some sg → Told P sg fn as r) : OpOk P F o st (post r) a w := by
  classical
  unfold goEffS at hr
  split at hr
  · rename_i d x hd hxs
    split at hr
    · rename_i sg hsg
      obtain ⟨v, l1, l2, h1, h2, _⟩ := run_bind hr
      split at h2
      · rename_i t z m
        obtain ⟨u, l5, l6, h5, h6, _⟩ := run_bind h2
        split at h6
        · rename_i m0 n0 hcan
          obtain ⟨hnd, h7⟩ := run_chk h6
          simp only [Bool.and_eq_true, Bool.not_eq_true'] at hnd
          obtain ⟨hnd, hmk, hnb⟩ := hnd
          have := run_ret h7
          injection this with e1 e2 e3
          subst e1
          subst e2
          subst e3
          obtain ⟨fn, hfn, hname, hbody⟩ := (hS sg hsg).said.1
          have hM := (hS sg hsg).s
          have hM := hM t u m0 hmk hnb rfl
          obtain ⟨_, hids, hzip⟩ := canonT_zip hcan
          have hzip := hzip [] [] rfl
          have hzip : zipM (fun j r => (idsT t m)[j]? = some r) t m m0 := hzip.imp (fun j r hj => by simpa using hj)
          have hx := evt_TV h h1
          simp only [TVR] at hx
          obtain ⟨cs, hx, hv⟩ := hx
          let gm : Gh := { g with ρ := fun j => g.ρ ((idsT t m).getD j 0), σ := fun j => g.σ ((idsT t m).getD j 0), S := fun j => g.S ((idsT t m).getD j 0) }
          have hgm : ∀ j r, (idsT t m)[j]? = some r → gm.σ j = g.σ r ∧ gm.S j = g.S r ∧ gm.ρ j = g.ρ r := by
            intro j r hj
            have e : (idsT t m).getD j 0 = r := by rw [List.getD_eq_getElem?_getD, hj]; rfl
            exact ⟨by show g.σ _ = _; rw [e], by show g.S _ = _; rw [e], by show g.ρ _ = _; rw [e]⟩
          have hj2 : ∀ j ∈ idsT t m0, ∃ r, (idsT t m)[j]? = some r ∧ r ∈ idsT t m := by
            intro j hj
            rw [hids] at hj
            have hj : j < (idsT t m).length := by simpa using hj
            exact ⟨_, List.getElem?_eq_getElem hj, List.getElem_mem hj⟩
          have hr2 : ∀ r ∈ idsT t m, ∃ j ∈ idsT t m0, (idsT t m)[j]? = some r := by
            intro r hr
            obtain ⟨j, hj⟩ := List.getElem?_of_mem hr
            refine ⟨j, ?_, hj⟩
            rw [hids]
            have := (List.getElem?_eq_some_iff.1 hj).1
            simpa using this
          have hal := full_alive h5
          have hown := zip_own (gm := gm) h hgm h5 hzip
          have hLS : ∀ k, LentS gm (idsT t m0) k ↔ ∃ q ∈ idsT t m, g.S q k := by
            intro k
            constructor
            · rintro ⟨j, hj, hk⟩
              obtain ⟨r, hr, hm⟩ := hj2 j hj
              exact ⟨r, hm, by rw [← (hgm j r hr).2.1]; exact hk⟩
            · rintro ⟨r, hr, hk⟩
              obtain ⟨j, hj, he⟩ := hr2 r hr
              exact ⟨j, hj, by rw [(hgm j r he).2.1]; exact hk⟩
          have hlo : LentOk gm w (idsT t m0) := by
            refine ⟨fun j hj => ?_, fun i hi j hj hne k hk hk' => ?_⟩
            · obtain ⟨r, hr, hm⟩ := hj2 j hj
              obtain ⟨_, q2, q3⟩ := hgm j r hr
              rw [q2, q3]
              exact ⟨h.isl r (dom_of_alive (hal r hm)), fun k hk => (h.newR r (hal r hm) k hk).2⟩
            · obtain ⟨r, hr, hm⟩ := hj2 i hi
              obtain ⟨r', hr', hm'⟩ := hj2 j hj
              rw [(hgm i r hr).2.1] at hk
              rw [(hgm j r' hr').2.1] at hk'
              refine h.dRR r r' (hal r hm) (hal r' hm') (fun e => hne ?_) k hk hk'
              subst e
              rw [← idx_of hnd hr, ← idx_of hnd hr']
          have hargs : c.args.map a.eval = #[valOf t cs] := by
            apply Array.ext'
            simp [hxs, hx]
          have hf : a.eval (.func gn) = .func (.func gn) #[] #[] := by
            have hf := ev_TV h (x := .func gn) (tv := .clo gn []) (l := []) rfl
            simp only [TVR, TVRs] at hf
            obtain ⟨vs, ef, hvs⟩ := hf
            rw [ef, hvs]
          have hrun : (execOp a.eval o).run P w = .ok (.enter gn #[valOf t cs]) w := by
            have hname' : ¬ fn.name = "runtime.NumGoroutine" := fun e => by rw [e] at hname; simp at hname
            have hbody' : ¬ fn.body = none := fun e => by rw [e] at hbody; cases hbody
            simp [execOp, ho, resolve, hc, hf, Deferred.ofValue, invoke, callFunc, hfn, hname', hbody', hargs]
          intro ops Kc Q hw hK
          unfold Oper.wp
          rw [hrun, Oper.upon_enter]
          refine Calls.mono (hM w gm cs (zip_VR (g := g) (fun j r hj => (hgm j r hj).2.2) h5 hv hzip) hown hlo) ?_
          intro e w' he
          cases e with
          | returned v' =>
            obtain ⟨t', y, hrr, hv', q1, q2, q3, q4, q5, q6⟩ := he
            show Kc (a.put o.dst v') w'
            rw [hd, hv']
            rw [hrr] at hK
            show Kc (a.put (some d) (.tuple #[])) w'
            have hfr : ∀ k, k < w.heap.size → ¬ (∃ q ∈ idsT t m, g.S q k) → w'.heap[k]? = w.heap[k]? := fun k hk hn => q5 k hk (fun hl => hn ((hLS k).1 hl))
            have fin : ∃ g', Rel F g' (postS d t m [⟨t', y⟩] ++ st) (a.put (some d) (.tuple #[])) w' := by
              show ∃ g', Rel F g' ((keptRows t m t' y ++ [(kT d, some (.tv (.tup [])))]) ++ st) (a.put (some d) (.tuple #[])) w'
              unfold keptRows
              split
              · rename_i y' hy
                obtain ⟨e1, e2⟩ := cast_some hy
                subst e1
                have e2 : y = y' := e2
                subst e2
                obtain ⟨gc, p1, p2, p3⟩ := q6 rfl
                have p1 : OwnR gc w' t' y m0 := p1
                have hg := rowsOf_get hzip hown p1
                have hkey : ∀ k, dom (rowsOf t' y m) k = true → ∃ r ∈ idsT t' m, k = kR r := by
                  intro k hk
                  obtain ⟨v, hv⟩ := dom_mem.1 hk
                  obtain ⟨j, r, _, hm, _, e, _⟩ := hg _ hv
                  exact ⟨r, hm, e⟩
                have hget : ∀ q v, get (rowsOf t' y m) (kR q) = some v → ∃ j, (idsT t' m)[j]? = some q ∧ j ∈ idsT t' m0 ∧ (idsT t' m).idxOf q = j ∧ ∃ e t xs, v = .row e t xs ∧ RowR gc w' j e t xs ∧ gm.σ j = t := by
                  intro q v hv
                  obtain ⟨j, r, a1, a2, a3, a4, e, t, xs, a5, a6, a7⟩ := hg _ (get_mem hv)
                  have : q = r := kR_inj a4
                  subst this
                  injection a5 with a5
                  exact ⟨j, a1, a3, idx_of hnd a1, e, t, xs, a5, a6, a7⟩
                refine h.marked0 (hn d hd) (tv := .tup []) (v0 := .tuple #[]) (fun g D w ok => by simp only [TVR]; exact ⟨[], rfl, by simp only [TVRs]⟩) (S' := fun q => gc.S ((idsT t' m).idxOf q)) ?_ ?_ ?_ hal q1 q2 q3 q4 hfr ?_ ?_ ?_
                · intro i
                  cases e : dom (rowsOf t' y m) (kT i) with
                  | false => rfl
                  | true => obtain ⟨r, _, e⟩ := hkey _ e; exact (kT_kR _ _ e).elim
                · intro i
                  cases e : dom (rowsOf t' y m) (kB i) with
                  | false => rfl
                  | true => obtain ⟨r, _, e⟩ := hkey _ e; exact (kB_kR _ _ e).elim
                · intro q
                  constructor
                  · intro e
                    obtain ⟨r, hm, e⟩ := hkey _ e
                    rw [kR_inj e]; exact hm
                  · intro hm
                    obtain ⟨v, hv⟩ := rowsOf_dom (y := y) q hm
                    exact dom_mem.2 ⟨v, hv⟩
                · intro q v hv
                  obtain ⟨j, a1, a2, a3, e, t, xs, a4, a5, a6⟩ := hget q v hv
                  obtain ⟨b1, b2, b3⟩ := hgm j q a1
                  refine ⟨e, t, xs, a4, by rw [← b1]; exact a6, ?_⟩
                  show Kd.S t.kd e w' 0 (gc.S ((idsT t' m).idxOf q)) (g.ρ q) xs
                  rw [a3, ← b3, ← (p2 j a2).1]
                  exact a5.2
                · intro q v hv k hk
                  obtain ⟨j, a1, a2, a3, _⟩ := hget q v hv
                  have hk : gc.S ((idsT t' m).idxOf q) k := hk
                  rw [a3] at hk
                  have := (p2 j a2).2 k hk
                  exact ⟨this.1.imp (fun hl => (hLS k).1 hl) id, this.2⟩
                · intro q q' v v' hv hv' hne k hk hk'
                  obtain ⟨j, a1, a2, a3, _⟩ := hget q v hv
                  obtain ⟨j', b1, b2, b3, _⟩ := hget q' v' hv'
                  have hk : gc.S ((idsT t' m).idxOf q) k := hk
                  have hk' : gc.S ((idsT t' m).idxOf q') k := hk'
                  rw [a3] at hk
                  rw [b3] at hk'
                  refine p3 j a2 j' b2 (fun e => hne ?_) k hk hk'
                  subst e
                  rw [a1] at b1
                  injection b1
              · have hnone : ∀ q v, get (drops (idsT t m)) (kR q) = some v → False := by
                  intro q v hv
                  rw [drops_none] at hv
                  cases hv
                refine h.marked0 (hn d hd) (tv := .tup []) (v0 := .tuple #[]) (fun g D w ok => by simp only [TVR]; exact ⟨[], rfl, by simp only [TVRs]⟩) (S' := fun _ _ => False) ?_ ?_ ?_ hal q1 q2 q3 q4 hfr ?_ ?_ ?_
                · intro i
                  cases e : dom (drops (idsT t m)) (kT i) with
                  | false => rfl
                  | true => obtain ⟨r, _, e⟩ := drops_only e; exact (kT_kR _ _ e).elim
                · intro i
                  cases e : dom (drops (idsT t m)) (kB i) with
                  | false => rfl
                  | true => obtain ⟨r, _, e⟩ := drops_only e; exact (kB_kR _ _ e).elim
                · intro q
                  constructor
                  · intro e
                    obtain ⟨r, hm, e⟩ := drops_only e
                    rw [kR_inj e]; exact hm
                  · exact fun hm => drops_dom hm
                · intro q v hv; exact (hnone q v hv).elim
                · intro q v hv; exact (hnone q v hv).elim
                · intro q q' v v' hv; exact (hnone q v hv).elim
            obtain ⟨g', hg'⟩ := fin
            exact hK g' _ _ hg'
          | panicked ch => exact he.elim
          | outgrown => exact he.elim
        · exact (run_fail h6).elim
      · exact (run_fail h2).elim
    · exact (run_fail hr).elim
  · exact (run_fail hr).elim
end
end Go.Proofs.YtcmjbplnjjdcdaaGreat.Ref

namespace Go.Proofs.YtcmjbplnjjdcdaaGreat.Ref
open Go.RowKit Go.Proofs.YtcmjbplnjjdcdaaGreatW.PrintWords Go.Proofs.YtcmjbplnjjdcdaaGreatW.PrintLast

section
variable {P : Program} {T : Tab} {G : Sigs} {F : Fx} {g : Gh} {st : St} {a : Act} {w w' : World} {o o1 o2 o3 : Oper} {d : Nat} {l : List Nat} {wr : Wr} {D : Nat → Bool} {ok ok' : Nat → Prop}
/-- A slot whose value is of no interest. -/
theorem Rel.kill (h : Rel F g st a w) {d : Nat} (hd : F.slot d) (v : Value) : Rel F g ((kT d, none) :: st) (a.put (some d) v) w := by
  have hB : ∀ b, dom [(kT d, (none : Option Val))] (kB b) = false := fun b => dom_one_ne _ (kT_kB d b)
  have hR : ∀ r, dom [(kT d, (none : Option Val))] (kR r) = false := fun r => dom_one_ne _ (kT_kR d r)
  refine h.upd g [(kT d, none)] _ w (fun _ => False) (by rw [put_size, h.size]) (fun i hi => dom_one_ne _ (fun e => by have h1 := kT_inj e; have h2 := hd.1; omega)) (by rw [put_defers, h.defers]) rfl rfl rfl (Nat.le_refl _) (fun k _ _ => rfl)
    (fun _ hk => hk.elim) (fun _ _ => rfl) (fun _ _ => rfl) (fun _ _ => rfl) (fun _ _ => rfl) (fun _ _ _ => rfl) (fun k _ hm => (mut_app_T hB hR k).1 hm) (fun _ _ _ hk => hk) (fun _ _ _ _ _ hk => hk) ?_ ?_ ?_ ?_ (fun r hr => by rw [hR r] at hr; cases hr) ?_ ?_ ?_
  · intro i hi
    refine put_ne (fun e => ?_)
    subst e
    rw [dom_cons_same] at hi; cases hi
  · intro hmv i v' hv
    by_cases e : i = d
    · subst e
      rw [get_cons_same] at hv
      cases hv
    · rw [get_cons_ne _ _ (fun e' => e (kT_inj e').symm)] at hv
      cases hv
  · intro _ b v' hv
    rw [get_cons_ne _ _ (kT_kB d b)] at hv
    cases hv
  · intro r v' hv
    rw [get_cons_ne _ _ (kT_kR d r)] at hv
    cases hv
  · intro b b' hb hb' e
    rw [alive_app_out (hB b)] at hb
    rw [alive_app_out (hB b')] at hb'
    exact h.dBB b b' hb hb' e
  · intro b r hb hr
    rw [alive_app_out (hB b)] at hb
    rw [alive_app_out (hR r)] at hr
    exact h.dBR b r hb hr
  · intro r r' hr hr' hne
    rw [alive_app_out (hR r)] at hr
    rw [alive_app_out (hR r')] at hr'
    exact h.dRR r r' hr hr' hne
theorem flat_S {t : Ty} {e : Nat} {v : Value} {xs : List t.den} (hf : t.flat = true) (h : t.kd.R e w 0 ok v xs) : Kd.S t.kd e w 0 ok v xs := by
  obtain ⟨h0, inner, ho, hr⟩ := h
  refine ⟨fun _ => 0, h0, inner, by rw [List.length_zipIdx]; exact ho, by rw [List.length_zipIdx]; exact hr.1, fun j p hj => ?_⟩
  obtain ⟨y, hy, rfl⟩ := zipIdx_at hj
  exact K_M_flat hf (t.kd.K_of_M (hr.2 j y hy))
theorem M_other {t : Ty} {x : t.den} {c : List Value} {base : Nat} (hf : t.flat = true) (h : t.kd.M w base ok x c) : t.kd.M w' base ok' x c :=
  M_flat (w := w') hf (FK_flat (ok := fun _ => True) (w' := w') (ok' := fun _ => True) hf (K_FK (t.kd.K_of_M h)))
/-- The one part of a value that leads anywhere. -/
theorem lone_M {base : Nat} : ∀ {p : List Bool} {t : Ty} {x : t.den} {m : Mk} {ts : Ty} {y : ts.den} {m' : Mk} {c : List Value}, lone t p = true → t.kd.M w base ok x c → getp t x m p = some ⟨ts, y, m'⟩ →
    ∃ c1 mid c2, c = c1 ++ mid ++ c2 ∧ c1.length = offp t p ∧ ts.kd.M w base ok y mid ∧
      ∀ {w' : World} {ok' : Nat → Prop} {z : ts.den} {n : Mk} {x' : t.den} {m'' : Mk} {mid' : List Value}, setp t x m p ts z n = some (x', m'') → ts.kd.M w' base ok' z mid' → t.kd.M w' base ok' x' (c1 ++ mid' ++ c2)
  | [], t, x, m, ts, y, m', c, hl, hM, hg => by
    have hg : some (⟨t, x, m⟩ : (t' : Ty) × t'.den × Mk) = some ⟨ts, y, m'⟩ := by cases t <;> exact hg
    injection hg with hg
    injection hg with e1 e2
    subst e1
    cases e2
    refine ⟨[], c, [], by simp, by cases t <;> rfl, hM, ?_⟩
    intro w' ok' z n x' m'' mid' hs hz
    have hs2 : ∃ zz, Ty.cast t z = some zz ∧ zz = x' := by
      cases t <;> (simp only [setp] at hs; split at hs <;> first | (cases hs; done) | (rename_i zz hz; injection hs with hs; injection hs with h1 h2; exact ⟨zz, hz, h1⟩))
    obtain ⟨zz, hz1, rfl⟩ := hs2
    obtain ⟨e7, e8⟩ := cast_some hz1
    cases e8
    rw [List.nil_append, List.append_nil]
    exact hz
  | false :: p, .pair a b, x, m, ts, y, m', c, hl, hM, hg => by
    have hl := (Bool.and_eq_true _ _).mp (show (lone a p && b.flat) = true from hl)
    obtain ⟨ca, cb, e, ha, hb⟩ := hM
    obtain ⟨c1, mid, c2, f1, f2, f3, f4⟩ := lone_M (p := p) hl.1 ha (show getp a x.1 m.fst p = _ from hg)
    refine ⟨c1, mid, c2 ++ cb, by rw [e, f1]; simp, f2, f3, ?_⟩
    intro w' ok' z n x' m'' mid' hs hz
    simp only [setp] at hs
    split at hs
    · rename_i y0 n0 h1
      injection hs with hs
      injection hs with e1 e2
      subst e1
      exact ⟨c1 ++ mid' ++ c2, cb, by simp, f4 h1 hz, M_other hl.2 hb⟩
    · cases hs
  | true :: p, .pair a b, x, m, ts, y, m', c, hl, hM, hg => by
    have hl := (Bool.and_eq_true _ _).mp (show (a.flat && lone b p) = true from hl)
    obtain ⟨ca, cb, e, ha, hb⟩ := hM
    obtain ⟨c1, mid, c2, f1, f2, f3, f4⟩ := lone_M (p := p) hl.2 hb (show getp b x.2 m.snd p = _ from hg)
    refine ⟨ca ++ c1, mid, c2, by rw [e, f1]; simp, ?_, f3, ?_⟩
    · rw [List.length_append, f2, a.kd.K_len (a.kd.K_of_M ha), kd_sz]
      rfl
    intro w' ok' z n x' m'' mid' hs hz
    simp only [setp] at hs
    split at hs
    · rename_i y0 n0 h1
      injection hs with hs
      injection hs with e1 e2
      subst e1
      exact ⟨ca, c1 ++ mid' ++ c2, by simp, M_other hl.1 ha, f4 h1 hz⟩
    · cases hs
  | false :: p, .int _, x, m, ts, y, m', c, hl, hM, hg => by cases hg
  | false :: p, .bool, x, m, ts, y, m', c, hl, hM, hg => by cases hg
  | false :: p, .str, x, m, ts, y, m', c, hl, hM, hg => by cases hg
  | false :: p, .slice _ _, x, m, ts, y, m', c, hl, hM, hg => by cases hg
  | true :: p, .int _, x, m, ts, y, m', c, hl, hM, hg => by cases hg
  | true :: p, .bool, x, m, ts, y, m', c, hl, hM, hg => by cases hg
  | true :: p, .str, x, m, ts, y, m', c, hl, hM, hg => by cases hg
  | true :: p, .slice _ _, x, m, ts, y, m', c, hl, hM, hg => by cases hg
theorem callOf_op {f : Operand} {c : Call} (h : callOf o = some (f, c)) : o.op = .call c ∧ c.callee = .value f := by
  unfold callOf at h
  split at h
  · rename_i c' hc
    split at h
    · rename_i f' hf
      injection h with h
      injection h with h1 h2
      subst h1
      subst h2
      exact ⟨hc, hf⟩
    · cases h
  · cases h
theorem fuse3_spec {u : Fuse} (h : fuse3 T o1 o2 o3 = some u) : ∃ c : Call, o1.op = .load u.L u.a ∧ o1.guard = none ∧ o1.dst = some u.d1 ∧ o2.op = .move u.x ∧ o2.guard = none ∧ o2.dst = some u.d2 ∧ o3.op = .call c ∧ c.callee = .value (.func u.f) ∧ o3.guard = none ∧ o3.dst = some u.d3 ∧ c.args.toList = [.tmp u.d1, .tmp u.d2] ∧ u.d1 ≠ u.d2 ∧ notTmp u.d1 u.x = true := by
  unfold fuse3 at h
  split at h
  · rename_i L a d1 x d2 h1 h2 h3 h4 h5 h6
    split at h
    · rename_i f c d3 h7 h8 h9
      split at h
      · rename_i b1 b2 h10
        cases hc : (hasN T.lends f && (Nat.beq b1 d1 && (Nat.beq b2 d2 && (!(Nat.beq d1 d2) && notTmp d1 x)))) with
        | false => rw [hc] at h; cases h
        | true =>
          rw [hc] at h
          have h : some (⟨d1, d2, d3, L, a, x, f⟩ : Fuse) = some u := h
          injection h with h
          subst h
          simp only [Bool.and_eq_true, Bool.not_eq_true'] at hc
          obtain ⟨_, e1, e2, e3, e4⟩ := hc
          obtain ⟨q1, q2⟩ := callOf_op h7
          have e1 := Nat.eq_of_beq_eq_true e1
          have e2 := Nat.eq_of_beq_eq_true e2
          subst e1
          subst e2
          refine ⟨c, h1, h2, h3, h4, h5, h6, q1, q2, h8, h9, h10, fun e => ?_, e4⟩
          have e : b1 = b2 := e
          subst e
          rw [Nat.beq_refl] at e3
          cases e3
      · cases h
    · cases h
  · cases h
theorem eval_put {d : Nat} {v : Value} {x : Operand} (h : notTmp d x = true) : (a.put (some d) v).eval x = a.eval x := by
  cases x with
  | tmp t =>
    refine put_ne (fun e => ?_)
    subst e
    simp only [notTmp, Nat.beq_refl] at h
    cases h
  | _ => rfl
/-- What is lent of a row's element. -/
theorem bor_spec (h : Rel F g st a w) {u : Fuse} {b : Bor} (hp : (borP T G u).run st = some (b, l)) :
    (∃ l', (ev u.a).run st = some (.elt b.r b.i b.p, l')) ∧ get st (kR b.r) = some (.row b.e0 b.t0 b.xs) ∧ lone b.t0 b.p = true ∧ (0 ≤ b.i ∧ b.i < (b.xs.length : Int)) ∧ (∃ m, getp b.t0 (b.xs.getD b.i.toNat b.t0.zero) .no b.p = some ⟨.slice b.e b.t, b.y, m⟩) ∧ T.ty u.L = some (.slice b.e b.t) ∧ (∃ sg, G u.f = some sg) ∧ b.t.flat = true ∧ a.eval u.x = .int .i64 b.k := by
  unfold borP at hp
  obtain ⟨v, l1, l2, h1, h2, _⟩ := run_bind hp
  split at h2
  · rename_i r i p
    obtain ⟨vv, l3, h3, h4, _⟩ := run_rd h2
    split at h4
    · rename_i e0 t0 xs
      obtain ⟨q1, h5⟩ := run_chk h4
      obtain ⟨q2, h6⟩ := run_chk h5
      split at h6
      · rename_i e t y m hg
        split at h6
        · rename_i tL sg hL hG
          obtain ⟨q3, h7⟩ := run_chk h6
          obtain ⟨k, l8, l9, h8, h9, _⟩ := run_bind h7
          have := run_ret h9
          subst this
          simp only [inRange, Bool.and_eq_true, decide_eq_true_eq] at q2 q3
          have e3 := Ty.eq_of_beq q3.1
          exact ⟨⟨_, h1⟩, h3, q1, q2, ⟨_, hg⟩, by rw [hL, e3], ⟨_, hG⟩, q3.2, num64_TV h h8⟩
        · exact (run_fail h6).elim
      · exact (run_fail h6).elim
    · exact (run_fail h4).elim
  · exact (run_fail h2).elim
theorem bor_do (hT : TabOk P T) (h : Rel F g st a w) {u : Fuse} (hu : fuse3 T o1 o2 o3 = some u) (hs1 : F.slot u.d1) (hs2 : F.slot u.d2) (hs3 : F.slot u.d3) {b : Bor} (hp : (borP T G u).run st = some (b, l)) {q r : Ret}
    (hS : ∀ sg, G u.f = some sg → Told P sg u.f [.lend (.slice b.e b.t) b.y (.own 0), .val (.int .i64) b.k] q) {K : Wr → Option Ret} (hk : borK u b K q = some r) {ops : Array Oper} {Q : Exit → Act → World → Prop} {rest : List Oper}
    (hK : ∀ wr a' w', K wr = some r → (∃ g', Rel F g' (wr ++ st) a' w') → wpList P ops Q rest a' w') : wpList P ops Q (o1 :: o2 :: o3 :: rest) a w := by
  obtain ⟨c, p1, p2, p3, p4, p5, p6, p7, p8, p9, p10, p11, p12, p13⟩ := fuse3_spec hu
  obtain ⟨⟨l', hev⟩, hrow, hlone, hir, ⟨m, hg⟩, hL, ⟨sg, hG⟩, hfl, hkx⟩ := bor_spec h hp
  obtain ⟨r0, e0, t0, xs, i, p, e, t, y, k⟩ := b
  dsimp only at hev hrow hlone hir hg hL hfl hkx hS
  obtain ⟨hσ, hRS⟩ := h.rowS hrow
  have hu' := ev_TV h hev
  simp only [TVR] at hu'
  obtain ⟨bb, nn, cc, e3, e4, hdr⟩ := hu'
  rw [hσ] at e4
  have hnx : nn = xs.length := by
    obtain ⟨A, c, e5, hl, hC⟩ := Kd.S_reads hRS
    rw [e3] at e5
    injection e5 with e6 e7 e8
  subst hnx
  rw [e3] at hRS
  obtain ⟨oki, cl, hcl, hM0, hcc, _, hoki, hH⟩ := Kd.S_elem hRS t0.zero i hir.1 hir.2
  obtain ⟨c1, mid, c2, f1, f2, f3, f4⟩ := lone_M hlone hM0 hg
  obtain ⟨v, hmid, hRv⟩ : ∃ v, mid = [v] ∧ t.kd.R e w 0 oki v y := f3
  subst hmid
  have hSv : Kd.S t.kd e w 0 (fun k => oki k ∧ k < w.heap.size) v y := Kd.S_mono (Kd.S_bound (flat_S hfl hRv)) (fun k hk => ⟨hk.1, hk.2.2.1⟩)
  have hv1 : v.oneCell' = true := by
    obtain ⟨A, c, e1⟩ := Kd.R_slice hRv
    rw [e1]; rfl
  have hload : (Instr.loadAt u.L (a.eval u.a)).run P w = .ok v w := by
    rw [e4]
    refine load_run hT hL (cs := [v]) rfl (fun j x hj => ?_)
    cases j with
    | zero =>
      have hj : v = x := by simpa using hj
      subst hj
      have := hcc (offp t0 p) v (by rw [f1, ← f2, List.append_assoc, List.getElem?_append_right (Nat.le_refl _)]; simp)
      rw [kd_sz] at this
      rw [Addr.add_mid, Nat.add_zero]
      exact this
    | succ j => simp at hj
  have hx2 : (a.put (some u.d1) v).eval u.x = .int .i64 k := (eval_put p13).trans hkx
  generalize ha1 : a.put (some u.d1) v = a1 at hx2
  generalize ha2 : a1.put (some u.d2) (.int .i64 k) = a2
  have hR2 : Rel F g ((kT u.d2, some (.tv (.v (.int .i64) k .no))) :: (kT u.d1, none) :: st) a2 w := by
    rw [← ha2, ← ha1]
    refine (h.kill hs1 v).put hs2 rfl rfl rfl rfl ?_
    simp only [TVR]
    exact ⟨[.int .i64 k], rfl, VR_no.2 (fun _ _ => rfl)⟩
  have hd1 : a2.eval (.tmp u.d1) = v := by
    show a2.tmps.getD u.d1 undef = v
    rw [← ha2, put_ne p12, ← ha1, put_same (by rw [h.size]; exact hs1.2)]
  have hd2 : a2.eval (.tmp u.d2) = .int .i64 k := by
    show a2.tmps.getD u.d2 undef = _
    rw [← ha2, put_same (by rw [← ha1, put_size, h.size]; exact hs2.2)]
  obtain ⟨fn, hfn, hname, hbody⟩ := (hS sg hG).said.1
  have hM := (hS sg hG).m
  have hM := hM (.slice e t) y (.own 0) k rfl rfl rfl
  have hargs : c.args.map a2.eval = #[v, .int .i64 k] := by
    apply Array.ext'
    simp [p11, hd1, hd2]
  have hf : a2.eval (.func u.f) = .func (.func u.f) #[] #[] := by
    have hf := ev_TV hR2 (x := .func u.f) (tv := .clo u.f []) (l := []) rfl
    simp only [TVR, TVRs] at hf
    obtain ⟨vs, ef, hvs⟩ := hf
    rw [ef, hvs]
  have hrun3 : (execOp a2.eval o3).run P w = .ok (.enter u.f #[v, .int .i64 k]) w := by
    have hname' : ¬ fn.name = "runtime.NumGoroutine" := fun e => by rw [e] at hname; simp at hname
    have hbody' : ¬ fn.body = none := fun e => by rw [e] at hbody; cases hbody
    simp [execOp, p7, resolve, p8, hf, Deferred.ofValue, invoke, callFunc, hfn, hname', hbody', hargs]
  refine wpList_step (fun Kc hKc => ?_)
  rw [if_pos (show Region.wanted o1 (yielded ops a.tmps) = true by unfold Region.wanted; rw [p2])]
  unfold Oper.wp
  rw [show (execOp a.eval o1).run P w = .ok (.value v) w by simp [execOp, p1, hload]]
  show Kc (a.put o1.dst v) w
  rw [p3, ha1]
  refine hKc _ _ ?_
  refine wpList_step (fun Kc hKc => ?_)
  rw [if_pos (show Region.wanted o2 (yielded ops a1.tmps) = true by unfold Region.wanted; rw [p5])]
  unfold Oper.wp
  rw [show (execOp a1.eval o2).run P w = .ok (.value (.int .i64 k)) w by simp [execOp, p4, hx2]]
  show Kc (a1.put o2.dst (.int .i64 k)) w
  rw [p6, ha2]
  refine hKc _ _ ?_
  refine wpList_step (fun Kc hKc => ?_)
  rw [if_pos (show Region.wanted o3 (yielded ops a2.tmps) = true by unfold Region.wanted; rw [p9])]
  unfold Oper.wp
  rw [hrun3, Oper.upon_enter]
  have hVR : VR { g with ρ := fun _ => v, σ := fun _ => t, S := fun _ k => oki k ∧ k < w.heap.size } (fun _ => true) w (fun _ => False) (.slice e t) y (.own 0) [v] := by simp only [VR]; exact ⟨trivial, trivial⟩
  have hOw : OwnR { g with ρ := fun _ => v, σ := fun _ => t, S := fun _ k => oki k ∧ k < w.heap.size } w (.slice e t) y (.own 0) := ⟨rfl, hSv⟩
  have hLo : LentOk { g with ρ := fun _ => v, σ := fun _ => t, S := fun _ k => oki k ∧ k < w.heap.size } w (idsT (.slice e t) (.own 0)) := by
    refine ⟨fun j hj => ⟨hv1, fun k hk => hk.2⟩, fun i hi j hj hne => ?_⟩
    have h1 := List.mem_singleton.1 hi
    have h2 := List.mem_singleton.1 hj
    exact (hne (h1.trans h2.symm)).elim
  refine Calls.mono (hM w _ [v] hVR hOw hLo) ?_
  intro ee w' he
  cases ee with
  | panicked ch => exact he.elim
  | outgrown => exact he.elim
  | returned v' =>
    obtain ⟨n, t', z, hq, hv', q1, q2, q3, q4, q5, q6⟩ := he
    subst hq
    show Kc (a2.put o3.dst v') w'
    rw [p10, hv']
    refine hKc _ _ ?_
    simp only [borK] at hk
    split at hk
    · rename_i z' hz
      split at hk
      · rename_i x' m' hs
        obtain ⟨e1, e2⟩ := cast_some hz
        subst e1
        have e2 : z = z' := e2
        subst e2
        refine hK _ _ _ hk ?_
        obtain ⟨gc, r1, r2, r3⟩ := q6 rfl
        have r1 : gc.σ 0 = t ∧ Kd.S t.kd e w' 0 (gc.S 0) (gc.ρ 0) z := r1
        obtain ⟨r4, r5⟩ := r2 0 (List.mem_singleton.2 rfl)
        have r4 : gc.ρ 0 = v := r4
        have hlent : ∀ k, LentS { g with ρ := fun _ => v, σ := fun _ => t, S := fun _ k => oki k ∧ k < w.heap.size } (idsT (.slice e t) (.own 0)) k → oki k := by
          rintro k ⟨j, _, hk⟩
          exact hk.1
        have hz1 : (Ty.slice e t).kd.M w' 0 (fun k => oki k ∨ w.heap.size ≤ k) z [v] := by
          refine ⟨v, rfl, ?_⟩
          rw [← r4]
          exact Kd.R_mono (Kd.S_R r1.2) (fun k hk => (r5 k hk).1.imp (hlent k) id)
        have hx1 := f4 hs hz1
        rw [← f1] at hx1
        have hH1 := Kd.H_widen (Kd.H_mono hH (ok' := fun k => g.S r0 k ∨ w.heap.size ≤ k) (fun k hk => .inl hk))
        have hH2 := Kd.H_step (w1 := w') hH1 (fun k hk hn hlt => q5 k hlt (fun hl => hn (.inl (hlent k hl))))
        have hS2 := Kd.H_back hH2 hx1 (fun k hk => hk.imp id (fun h => ⟨.inr h, h⟩))
        have hS3 : Kd.S t0.kd e0 w' 0 (fun k => (g.S r0 k ∨ w.heap.size ≤ k) ∧ k < w'.heap.size) (.slice (some ⟨bb, 0, none⟩) xs.length cc) (xs.set i.toNat x') := Kd.S_mono (Kd.S_bound hS2) (fun k hk => ⟨hk.1, hk.2.2.1⟩)
        have hal : Alive ((kT u.d2, some (.tv (.v (.int .i64) k .no))) :: (kT u.d1, none) :: st) (kR r0) := ⟨_, by rw [get_cons_ne _ _ (kT_kR _ _), get_cons_ne _ _ (kT_kR _ _)]; exact hrow⟩
        have hg1 : ∀ {q v}, get [(kR r0, some (Val.row e0 t0 (xs.set i.toNat x')))] (kR q) = some v → q = r0 ∧ v = .row e0 t0 (xs.set i.toNat x') := by
          intro q v hv
          by_cases eq : q = r0
          · subst eq
            rw [get_cons_same] at hv
            exact ⟨rfl, (Option.some.inj hv).symm⟩
          · rw [get_cons_ne _ _ (fun e' => eq (kR_inj e').symm)] at hv
            cases hv
        obtain ⟨g', hg'⟩ := hR2.marked hs3 (n := n) (w' := w') (L := [r0]) (rows := [(kR r0, some (.row e0 t0 (xs.set i.toNat x')))]) (S' := fun _ k => (g.S r0 k ∨ w.heap.size ≤ k) ∧ k < w'.heap.size)
          (fun i => dom_one_ne _ (kT_kR i r0).symm) (fun b => dom_one_ne _ (kB_kR b r0).symm) (fun q => by
            constructor
            · intro hq
              by_cases eq : q = r0
              · rw [eq]; exact List.mem_singleton.2 rfl
              · rw [dom_one_ne _ (fun e' => eq (kR_inj e').symm)] at hq; cases hq
            · intro hq
              rw [List.mem_singleton.1 hq]
              exact dom_cons_same _ _ _) (fun q hq => by rw [List.mem_singleton.1 hq]; exact hal) q1 q2 q3 q4
          (fun k hk hn => q5 k hk (fun hl => hn ⟨r0, List.mem_singleton.2 rfl, (hoki k (hlent k hl)).1⟩))
          (fun q v hv => by
            obtain ⟨e1, e2⟩ := hg1 hv
            subst e1
            exact ⟨e0, t0, _, e2, hσ, by rw [e3]; exact hS3⟩)
          (fun q v hv k hk => ⟨hk.1.imp (fun h => ⟨r0, List.mem_singleton.2 rfl, h⟩) id, hk.2⟩)
          (fun q q' v v' hv hv' hne => (hne ((hg1 hv).1.trans (hg1 hv').1.symm)).elim)
        exact ⟨g', hg'⟩
      · cases hk
    · cases hk
theorem fuseL2_spec {u : FuseL} (h : fuseL2 T o1 o2 = some u) : ∃ c : Call, o1.op = .load u.L u.a ∧ o1.guard = none ∧ o1.dst = some u.d1 ∧ o2.op = .call c ∧ c.callee = .value (.func u.f) ∧ o2.guard = none ∧ o2.dst = some u.d2 ∧ c.args.toList = [.tmp u.d1] := by
  unfold fuseL2 at h
  split at h
  · rename_i L a d1 h1 h2 h3
    split at h
    · rename_i f c d2 h7 h8 h9
      split at h
      · rename_i b1 h10
        cases hc : Nat.beq b1 d1 with
        | false => rw [hc] at h; cases h
        | true =>
          rw [hc] at h
          have h : some (⟨d1, d2, L, a, f⟩ : FuseL) = some u := h
          injection h with h
          subst h
          obtain ⟨q1, q2⟩ := callOf_op h7
          have e1 := Nat.eq_of_beq_eq_true hc
          subst e1
          exact ⟨c, h1, h2, h3, q1, q2, h8, h9, h10⟩
      · cases h
    · cases h
  · cases h
theorem lod_do (hT : TabOk P T) (h : Rel F g st a w) {u : FuseL} (hu : fuseL2 T o1 o2 = some u) (hs1 : F.slot u.d1) (hs2 : F.slot u.d2) {b : Dv × Sig} (hp : (loadL T G u).run st = some (b, l)) {q : Ret}
    (hS : ∀ sg, G u.f = some sg → Told P sg u.f [.val b.1.1 b.1.2] q) {ops : Array Oper} {Q : Exit → Act → World → Prop} {rest : List Oper}
    (hK : ∀ a' w', (∃ g', Rel F g' ((postOf u.d2 b.2 q ++ [(kT u.d1, none)]) ++ st) a' w') → wpList P ops Q rest a' w') : wpList P ops Q (o1 :: o2 :: rest) a w := by
  obtain ⟨c, p1, p2, p3, p4, p5, p6, p7, p8⟩ := fuseL2_spec hu
  unfold loadL at hp
  obtain ⟨v, l1, l2, hev, h2, _⟩ := run_bind hp
  split at h2
  · rename_i r i p
    obtain ⟨vv, l3, hb, h3, _⟩ := run_rd h2
    split at h3
    · rename_i e0 t0 xs
      obtain ⟨hir, h3⟩ := run_chk h3
      split at h3
      · rename_i t y m' hg
        split at h3
        · rename_i tL sg hL hG
          obtain ⟨hck, h4⟩ := run_chk h3
          obtain ⟨hfr, L', h5⟩ := freshP_run h4
          have := run_ret h5
          subst this
          simp only [Bool.and_eq_true] at hck
          obtain ⟨hty, hres, hnd, h8⟩ := hck
          have e := Ty.eq_of_beq hty
          subst e
          have hlt8 : ∀ j ∈ sigIds sg, j < 8 := fun j hj => by
            have := List.all_eq_true.1 h8 j hj
            exact Nat.le_of_ble_eq_true this
          obtain ⟨hσ, hR⟩ := h.row hb
          simp only [inRange, Bool.and_eq_true, decide_eq_true_eq] at hir
          have hu' := ev_TV h hev
          simp only [TVR] at hu'
          obtain ⟨bb, n, cc', e1, e2, _⟩ := hu'
          rw [hσ] at e2
          obtain ⟨A, c', e3, hcl, hC⟩ := Kd.R_reads hR
          rw [e1] at e3
          injection e3 with e4 e5 e6
          subst e5
          obtain ⟨ad, cc, e7, hl, hKK, hcc⟩ := Kd.C_get hC t0.zero i hir.1 (by omega)
          rw [← e4] at e7
          injection e7 with e7
          subst e7
          have hfk : VR g (dom st) w (fun _ => True) t0 (xs.getD i.toNat t0.zero) .no cc := VR_no.2 (K_FK hKK)
          obtain ⟨c1, mid, c2, f1, f2, f3⟩ := getp_VR hg hfk
          have hm : m' = .no := by
            have hm : ∀ {p : List Bool} {t : Ty} {x : t.den} {t' : Ty} {y : t'.den} {m' : Mk}, getp t x .no p = some ⟨t', y, m'⟩ → m' = .no := by
              intro p
              induction p with
              | nil =>
                intro t x t' y m' h
                have : (⟨t, x, .no⟩ : (t' : Ty) × t'.den × Mk) = ⟨t', y, m'⟩ := by cases t <;> exact Option.some.inj h
                cases this; rfl
              | cons c p ih =>
                intro t x t' y m' h
                cases t with
                | pair a b => cases c <;> exact ih h
                | _ => cases c <;> cases h
            exact hm hg
          subst hm
          have hmid : Kd.FK t.kd w (fun _ => True) y mid := VR_no.1 f3
          have hload : (Instr.loadAt u.L (a.eval u.a)).run P w = .ok (valOf t mid) w := by
            rw [e2]
            refine load_run hT hL (VR_len f3) (fun j x hj => ?_)
            have h5 := hcc (offp t0 p + j) x (by rw [f1, ← f2, List.append_assoc, List.getElem?_append_right (by omega), List.getElem?_append_left (by have := (List.getElem?_eq_some_iff.1 hj).1; omega), ← hj]; congr 1; omega)
            rw [Addr.add_mid] at h5 ⊢
            rw [kd_sz] at h5
            rw [← h5]
            congr 2
            omega
          obtain ⟨⟨fn, hfn, hname, hbody⟩, hcalls⟩ := (hS sg hG).said
          refine wpList_step (fun Kc hKc => ?_)
          rw [if_pos (show Region.wanted o1 (yielded ops a.tmps) = true by unfold Region.wanted; rw [p2])]
          unfold Oper.wp
          rw [show (execOp a.eval o1).run P w = .ok (.value (valOf t mid)) w by simp [execOp, p1, hload]]
          show Kc (a.put o1.dst (valOf t mid)) w
          rw [p3]
          generalize ha1 : a.put (some u.d1) (valOf t mid) = a1
          refine hKc _ _ ?_
          have hR1 : Rel F g ((kT u.d1, none) :: st) a1 w := by
            rw [← ha1]
            exact h.kill hs1 _
          have hd1 : a1.eval (.tmp u.d1) = valOf t mid := by
            show a1.tmps.getD u.d1 undef = _
            rw [← ha1, put_same (by rw [h.size]; exact hs1.2)]
          have hargs : c.args.map a1.eval = #[valOf t mid] := by
            apply Array.ext'
            simp [p8, hd1]
          have hf : a1.eval (.func u.f) = .func (.func u.f) #[] #[] := by
            have hf := ev_TV hR1 (x := .func u.f) (tv := .clo u.f []) (l := []) rfl
            simp only [TVR, TVRs] at hf
            obtain ⟨vs, ef, hvs⟩ := hf
            rw [ef, hvs]
          have hrun : (execOp a1.eval o2).run P w = .ok (.enter u.f #[valOf t mid]) w := by
            have hname' : ¬ fn.name = "runtime.NumGoroutine" := fun e => by rw [e] at hname; simp at hname
            have hbody' : ¬ fn.body = none := fun e => by rw [e] at hbody; cases hbody
            simp [execOp, p4, resolve, p5, hf, Deferred.ofValue, invoke, callFunc, hfn, hname', hbody', hargs]
          refine wpList_step (fun Kc hKc => ?_)
          rw [if_pos (show Region.wanted o2 (yielded ops a1.tmps) = true by unfold Region.wanted; rw [p6])]
          unfold Oper.wp
          rw [hrun, Oper.upon_enter]
          refine Calls.mono (hcalls w (fun _ => True) [valOf t mid] ⟨_, [], rfl, ⟨mid, rfl, hmid⟩, rfl⟩) ?_
          intro ee w' he
          cases ee with
          | panicked ch => exact he.elim
          | outgrown => exact he.elim
          | returned v' =>
            obtain ⟨g', hg'⟩ := hR1.called hs2 hlt8 (fun j hj => by rw [dom_cons_ne _ _ (kT_kR _ _)]; exact hfr j hj) (.inl hres) he
            show Kc (a1.put o2.dst v') w'
            rw [p7]
            refine hKc _ _ (hK _ _ ⟨g', ?_⟩)
            rw [List.append_assoc]
            exact hg'
        · exact (run_fail h3).elim
      · exact (run_fail h3).elim
    · exact (run_fail h3).elim
  · exact (run_fail h2).elim
end
end Go.Proofs.YtcmjbplnjjdcdaaGreat.Ref

namespace Go.Proofs.YtcmjbplnjjdcdaaGreat.Ref
open Go.RowKit Go.Proofs.YtcmjbplnjjdcdaaGreatW.PrintWords Go.Proofs.YtcmjbplnjjdcdaaGreatW.PrintLast

section
variable {P : Program} {T : Tab} {G : Sigs} {F : Fx} {g : Gh} {st : St} {a : Act} {w w' : World} {o : Oper} {d : Nat} {l : List Nat} {wr : Wr} {D : Nat → Bool} {ok ok' : Nat → Prop}
theorem zip_allOwn {R : Nat → Nat → Prop} : ∀ {t : Ty} {m m' : Mk}, zipM R t m m' → allOwn t m' = true
  | .slice _ _, .own r, .own j, hz => rfl
  | .slice _ _, .own r, .no, hz => hz.elim
  | .slice _ _, .own r, .nil, hz => hz.elim
  | .slice _ _, .own r, .pair _ _, hz => hz.elim
  | .slice _ _, .no, _, hz => hz.elim
  | .slice _ _, .nil, _, hz => hz.elim
  | .slice _ _, .pair _ _, _, hz => hz.elim
  | .pair a b, m, .pair p q, hz => by
    simp only [allOwn, Bool.and_eq_true]
    exact ⟨zip_allOwn hz.1, zip_allOwn hz.2⟩
  | .pair _ _, _, .no, hz => hz.elim
  | .pair _ _, _, .nil, hz => hz.elim
  | .pair _ _, _, .own _, hz => hz.elim
  | .int _, _, _, _ => rfl
  | .bool, _, _, _ => rfl
  | .str, _, _, _ => rfl
/-- The arguments of such a call. -/
theorem argsG_spec (h : Rel F g st a w) : ∀ {xs : List Operand} {n : Nat} {ts : List Nat} {as : List AV} {ids l : List Nat}, (argsG T n xs ts).run st = some ((as, ids), l) →
    avIds as = List.range' n ids.length ∧ (∀ r ∈ ids, Alive st (kR r)) ∧ ∀ (pre post : List Nat) (gm : Gh), pre.length = n → (∀ j r, (pre ++ ids ++ post)[j]? = some r → gm.σ j = g.σ r ∧ gm.S j = g.S r ∧ gm.ρ j = g.ρ r) → AVRgs gm w (F.ok g st) as (xs.map a.eval)
  | [], n, ts, as, ids, l, hr => by
    have := run_ret hr
    injection this with e1 e2
    subst e1
    subst e2
    exact ⟨rfl, fun r hr => (List.not_mem_nil hr).elim, fun _ _ _ _ _ => rfl⟩
  | x :: xs, n, ts, as, ids, l, hr => by
    obtain ⟨v, l1, l2, h1, h2, _⟩ := run_bind hr
    split at h2
    · rename_i t y m
      obtain ⟨⟨av, n', ids1⟩, l3, l4, h3, h4, _⟩ := run_bind h2
      obtain ⟨⟨as', ids2⟩, l5, l6, h5, h6, _⟩ := run_bind h4
      have := run_ret h6
      injection this with e1 e2
      subst e1
      subst e2
      obtain ⟨p1, p2, p3⟩ := argsG_spec h h5
      have hv := evt_TV h h1
      simp only [TVR] at hv
      obtain ⟨cs, e, hv⟩ := hv
      obtain ⟨z, l7, l8, h7, h8, _⟩ := run_bind h3
      cases hem : (idsT t m).isEmpty with
      | true =>
        rw [hem] at h8
        have := run_ret h8
        injection this with e1 e2
        injection e2 with e2 e3
        subst e1
        subst e2
        subst e3
        have hids : idsT t m = [] := by simpa using hem
        refine ⟨by simpa [avIds] using p1, fun r hr => p2 r (by simpa using hr), fun pre post gm hp hg => ⟨_, _, rfl, ⟨cs, e, ?_⟩, p3 pre post gm hp (fun j r hj => hg j r (by simpa using hj))⟩⟩
        refine Foot.mono (full_FK h h7 hv) (fun k hk => ?_)
        rcases hk with hk | ⟨q, hq, _⟩
        · exact hk
        · rw [hids] at hq; cases hq
      | false =>
        rw [hem] at h8
        simp only at h8
        split at h8
        · rename_i m0 n0 hcan
          have := run_ret h8
          injection this with e1 e2
          injection e2 with e2 e3
          subst e1
          subst e2
          subst e3
          obtain ⟨c1, c2, c3⟩ := canonT_zip hcan
          refine ⟨?_, fun r hr => ?_, fun pre post gm hp hg => ⟨_, _, rfl, ?_, p3 (pre ++ idsT t m) post gm (by rw [List.length_append, hp, c1]) (fun j r hj => hg j r (by rw [← hj]; simp [List.append_assoc]))⟩⟩
          · show idsT t m0 ++ avIds as' = _
            rw [c2, p1, List.length_append, c1]
            simp
          · rcases List.mem_append.1 hr with hr | hr
            · exact full_alive h7 r hr
            · exact p2 r hr
          · have hz := c3 pre (ids2 ++ post) hp
            have hz : zipM (fun j r => gm.σ j = g.σ r ∧ gm.S j = g.S r ∧ gm.ρ j = g.ρ r) t m m0 := hz.imp (fun j r hj => hg j r (by rw [← hj]; simp [List.append_assoc]))
            exact ⟨zip_allOwn hz, cs, e, zip_VR (g := g) (fun j r hj => hj.2.2) h7 hv hz, zip_own h (fun j r hj => hj) h7 hz⟩
        · exact (run_fail h8).elim
    · exact (run_fail h2).elim
/-- The state behind such a call: the given rows are gone; the variable, if one was pointed to, holds something else. -/
theorem Rel.calledG (h : Rel F g st a w) {d : Nat} (hd : F.slot d) {sg : Sig} {rs : Ret} {v : Value} {w' : World} {L : List Nat} {bx : Wr} {gc : Gh} {vs : List Value}
    (h8 : ∀ j ∈ sigIds sg, j < 8) (hfr : ∀ j ∈ sigIds sg, dom st (kR (rid d j)) = false) (hal : ∀ q ∈ L, Alive st (kR q))
    (hbT : ∀ i, dom bx (kT i) = false) (hbR : ∀ q, dom bx (kR q) = false) (hbB : ∀ b, dom bx (kB b) = true → Alive st (kB b))
    (hbG : ∀ b v, get bx (kB b) = some v → ∃ (t : Ty) (x : t.den) (m : Mk) (y : t.den) (cs : List Value) (ty : TypeId), v = .box t y .no ∧ get st (kB b) = some (.box t x m) ∧ w'.heap[g.β b]? = some (.cells cs.toArray ty (0, 0)) ∧ Kd.FK t.kd w' (okP gc (sigIds sg) w (fun k => F.ok g st k ∨ ∃ q ∈ L, g.S q k)) y cs)
    (hos : w'.os = w.os) (htp : w'.tape = w.tape) (hout : w'.output = w.output) (hgrow : w.heap.size ≤ w'.heap.size)
    (hfr2 : ∀ k, k < w.heap.size → ¬ (∃ q ∈ L, g.S q k) → (∀ b, dom bx (kB b) = true → k ≠ g.β b) → w'.heap[k]? = w.heap[k]?)
    (hv : v = tupled vs) (hres : ResR gc w' (okP gc (sigIds sg) w (fun k => F.ok g st k ∨ ∃ q ∈ L, g.S q k)) sg rs vs)
    (hid : ∀ j ∈ sigIds sg, (gc.ρ j).oneCell' = true ∧ ∀ k, gc.S j k → ((∃ q ∈ L, g.S q k) ∨ w.heap.size ≤ k) ∧ k < w'.heap.size)
    (hdis : ∀ i ∈ sigIds sg, ∀ j ∈ sigIds sg, i ≠ j → ∀ k, gc.S i k → ¬ gc.S j k) :
    Rel F (ghCall g gc d (sigIds sg)) (((postOf d sg rs ++ bx) ++ drops L) ++ st) (a.put (some d) v) w' := by
  have hrow := takeVals_get (d := d) hres
  have hrow1 : ∀ p ∈ (takeVals d sg rs).1, ∃ j ∈ sigIds sg, p.1 = kR (rid d j) := fun p hp => by obtain ⟨j, hj, e, _⟩ := hrow p hp; exact ⟨j, hj, e⟩
  have hdom := takeVals_dom (d := d) hres
  have hT0 := fun i => postOf_T (i := i) hrow1
  have hB0 := fun b => postOf_B (b := b) hrow1
  have hR0 := fun q => postOf_R (q := q) hrow1 hdom h8
  have hdT : ∀ i, dom ((postOf d sg rs ++ bx) ++ drops L) (kT i) = dom (postOf d sg rs) (kT i) := fun i => by
    rw [dom_app, dom_app, hbT, dom_drops_T, Bool.or_false, Bool.or_false]
  have hT : ∀ i, (dom ((postOf d sg rs ++ bx) ++ drops L) (kT i) = true ↔ i = d) ∧ (∀ v, get ((postOf d sg rs ++ bx) ++ drops L) (kT i) = some v → i = d ∧ v = .tv (match (takeVals d sg rs).2 with
    | [v] => v
    | vs => .tup vs)) := by
    intro i
    constructor
    · rw [hdT]
      exact (hT0 i).1
    · intro v hv
      have hq : dom (postOf d sg rs) (kT i) = true := by rw [← hdT]; exact dom_of_get hv
      rw [get_app_in (by rw [dom_app, hq]; rfl), get_app_in hq] at hv
      exact (hT0 i).2 v hv
  have hdB : ∀ b, dom ((postOf d sg rs ++ bx) ++ drops L) (kB b) = dom bx (kB b) := fun b => by
    rw [dom_app, dom_app, hB0, dom_drops_B, Bool.or_false, Bool.false_or]
  have hgB : ∀ b v, get ((postOf d sg rs ++ bx) ++ drops L) (kB b) = some v → get bx (kB b) = some v := by
    intro b v hv
    have hq : dom bx (kB b) = true := by rw [← hdB]; exact dom_of_get hv
    rwa [get_app_in (by rw [dom_app, hq, Bool.or_true]), get_app_out (hB0 b)] at hv
  have hR : ∀ q, dom ((postOf d sg rs ++ bx) ++ drops L) (kR q) = (byCall d (sigIds sg) q || dom (drops L) (kR q)) := by
    intro q
    rw [dom_app, dom_app, hbR, Bool.or_false, hR0]
  have hLd : ∀ q, dom (drops L) (kR q) = true ↔ q ∈ L := fun q => by
    constructor
    · intro e
      obtain ⟨r, hr, e⟩ := drops_only e
      rw [kR_inj e]; exact hr
    · exact fun hq => drops_dom hq
  have hnew : ∀ {q}, dom st (kR q) = true → byCall d (sigIds sg) q = false := by
    intro q hq
    cases e : byCall d (sigIds sg) q with
    | false => rfl
    | true =>
      obtain ⟨j, hj, rfl, _⟩ := byCall_spec e
      rw [hfr j hj] at hq
      cases hq
  have hgR : ∀ q v, get ((postOf d sg rs ++ bx) ++ drops L) (kR q) = some v → byCall d (sigIds sg) q = true ∧ get (postOf d sg rs) (kR q) = some v := by
    intro q v hv
    cases hc : byCall d (sigIds sg) q with
    | true =>
      have hq : dom (postOf d sg rs) (kR q) = true := by rw [hR0]; exact hc
      rw [get_app_in (by rw [dom_app, hq]; rfl), get_app_in hq] at hv
      exact ⟨rfl, hv⟩
    | false =>
      rw [get_app_out (by rw [dom_app, hR0, hbR, hc]; rfl), drops_none] at hv
      cases hv
  have aB : ∀ b, Alive (((postOf d sg rs ++ bx) ++ drops L) ++ st) (kB b) → Alive st (kB b) := by
    intro b ha
    cases hq : dom bx (kB b) with
    | true => exact hbB b hq
    | false => exact (alive_app_out (by rw [hdB, hq])).1 ha
  have hold : ∀ {q}, Alive (((postOf d sg rs ++ bx) ++ drops L) ++ st) (kR q) → byCall d (sigIds sg) q = false → q ∉ L ∧ Alive st (kR q) := by
    intro q ha hq
    cases hd' : dom (drops L) (kR q) with
    | true =>
      rw [alive_app_in (by rw [hR, hd', Bool.or_true])] at ha
      obtain ⟨v, hv⟩ := ha
      have := (hgR q v hv).1
      rw [hq] at this
      cases this
    | false =>
      refine ⟨fun hm => ?_, (alive_app_out (by rw [hR, hq, hd']; rfl)).1 ha⟩
      rw [(hLd q).2 hm] at hd'
      cases hd'
  have hSnew : ∀ {q}, byCall d (sigIds sg) q = true → ∀ k, (ghCall g gc d (sigIds sg)).S q k → ((∃ q ∈ L, g.S q k) ∨ w.heap.size ≤ k) ∧ k < w'.heap.size := by
    intro q hq k hk
    have hk' : gc.S (q % 8) k := by simpa [ghCall, hq] using hk
    obtain ⟨j, hj, _, e⟩ := byCall_spec hq
    rw [e] at hk'
    exact (hid j hj).2 k hk'
  have hSold : ∀ {q}, byCall d (sigIds sg) q = false → (ghCall g gc d (sigIds sg)).S q = g.S q := by
    intro q hq
    simp [ghCall, hq]
  have hXl : ∀ {k}, (∃ q ∈ L, g.S q k) → k < w.heap.size ∧ (F.w0.heap.size ≤ k ∨ F.lent k) := by
    rintro k ⟨q, hq, hk⟩
    have := h.newR q (hal q hq) k hk
    exact ⟨this.2, this.1⟩
  have hmutN : ∀ {k}, Mut (ghCall g gc d (sigIds sg)) (((postOf d sg rs ++ bx) ++ drops L) ++ st) k → (∃ b, Alive st (kB b) ∧ g.β b = k) ∨ (∃ q, q ∉ L ∧ Alive st (kR q) ∧ g.S q k) ∨ ∃ j ∈ sigIds sg, gc.S j k := by
    rintro k (⟨b, hb, e⟩ | ⟨q, hq, e⟩)
    · exact .inl ⟨b, aB b hb, e⟩
    · cases hc : byCall d (sigIds sg) q with
      | true =>
        have e' : gc.S (q % 8) k := by simpa [ghCall, hc] using e
        obtain ⟨j, hj, _, ej⟩ := byCall_spec hc
        rw [ej] at e'
        exact .inr (.inr ⟨j, hj, e'⟩)
      | false =>
        rw [hSold hc] at e
        exact .inr (.inl ⟨q, (hold hq hc).1, (hold hq hc).2, e⟩)
  have hokk : Mv g (ghCall g gc d (sigIds sg)) (dom st) (dom (((postOf d sg rs ++ bx) ++ drops L) ++ st)) w w' (F.ok g st) (F.ok (ghCall g gc d (sigIds sg)) (((postOf d sg rs ++ bx) ++ drops L) ++ st)) →
      ∀ k, okP gc (sigIds sg) w (fun k => F.ok g st k ∨ ∃ q ∈ L, g.S q k) k → k < w'.heap.size → F.ok (ghCall g gc d (sigIds sg)) (((postOf d sg rs ++ bx) ++ drops L) ++ st) k := by
    intro hmv k hk hlt
    have hlim : F.w0.heap.size ≤ w.heap.size := h.grow
    rcases hk.1 with (h1 | h1) | h1
    · by_cases hkl : k < w.heap.size
      · exact hmv.ok k h1 hkl
      · refine ⟨.inr (.inl (by omega)), fun hm => ?_⟩
        rcases hmutN hm with ⟨b, hb, e⟩ | ⟨q, _, hq, e⟩ | ⟨j, hj, e⟩
        · have := h.boxLt hb; omega
        · have := (h.newR q hq k e).2; omega
        · exact hk.2 j hj e
    · have hx := hXl h1
      refine ⟨hx.2.elim (fun h => .inr (.inl h)) (fun h => .inr (.inr h)), fun hm => ?_⟩
      obtain ⟨q0, hq0, hk0⟩ := h1
      rcases hmutN hm with ⟨b, hb, e⟩ | ⟨q, hqL, hq, e⟩ | ⟨j, hj, e⟩
      · exact h.dBR b q0 hb (hal q0 hq0) (by rw [e]; exact hk0)
      · exact h.dRR q0 q (hal q0 hq0) hq (fun e' => hqL (e' ▸ hq0)) k hk0 e
      · exact hk.2 j hj e
    · refine ⟨.inr (.inl (by omega)), fun hm => ?_⟩
      rcases hmutN hm with ⟨b, hb, e⟩ | ⟨q, _, hq, e⟩ | ⟨j, hj, e⟩
      · have := h.boxLt hb; omega
      · have := (h.newR q hq k e).2; omega
      · exact hk.2 j hj e
  refine h.upd (ghCall g gc d (sigIds sg)) ((postOf d sg rs ++ bx) ++ drops L) (a.put (some d) v) w' (fun k => (∃ b, dom bx (kB b) = true ∧ k = g.β b) ∨ ∃ q ∈ L, g.S q k) (by rw [put_size, h.size]) (fun i hi => by cases e : dom ((postOf d sg rs ++ bx) ++ drops L) (kT i) with | false => rfl | true => have h1 := (hT i).1.1 e; have h2 := hd.1; omega) (by rw [put_defers, h.defers]) hos htp hout hgrow
    (fun k hk hne => hfr2 k hk (fun hx => hne (.inr hx)) (fun b hb e => hne (.inl ⟨b, hb, e⟩))) ?_ (fun _ _ => rfl) (fun _ _ => rfl) ?_ ?_ ?_ ?_ ?_ ?_ ?_ ?_ ?_ ?_ ?_ ?_ ?_ ?_
  · rintro k (⟨b, hb, e⟩ | ⟨q, hq, e⟩)
    · exact .inl ⟨b, hbB b hb, e.symm⟩
    · exact .inr ⟨q, hal q hq, e⟩
  · intro q hq; simp [ghCall, hnew hq]
  · intro q hq; simp [ghCall, hnew hq]
  · intro q _ hq
    rw [hR, Bool.or_eq_false_iff] at hq
    exact hSold hq.1
  · intro k hk hm
    rcases hmutN hm with ⟨b, hb, e⟩ | ⟨q, _, hq, e⟩ | ⟨j, hj, e⟩
    · exact .inl ⟨b, hb, e⟩
    · exact .inr ⟨q, hq, e⟩
    · rcases ((hid j hj).2 k e).1 with ⟨q, hq, e⟩ | h1
      · exact .inr ⟨q, hal q hq, e⟩
      · omega
  · rintro b hb hd' (⟨b', hb', e⟩ | ⟨q, hq, e⟩)
    · have := h.dBB b b' hb (hbB b' hb') e
      subst this
      rw [hdB, hb'] at hd'
      cases hd'
    · exact h.dBR b q hb (hal q hq) e
  · rintro q hq hd' k hk (⟨b', hb', e⟩ | ⟨q', hq', e⟩)
    · subst e
      exact h.dBR b' q (hbB b' hb') hq hk
    · rw [hR, Bool.or_eq_false_iff] at hd'
      refine h.dRR q q' hq (hal q' hq') (fun e2 => ?_) k hk e
      subst e2
      rw [(hLd q).2 hq'] at hd'
      cases hd'.2
  · intro i hi
    refine put_ne (fun e => ?_)
    rw [(hT i).1.2 e] at hi
    cases hi
  · intro hmv i v' hv'
    obtain ⟨e1, e2⟩ := (hT i).2 v' hv'
    subst e1
    subst e2
    refine ⟨_, rfl, ?_⟩
    rw [put_same (by rw [h.size]; exact hd.2), hv]
    refine tupled_TV (takeVals_TV (gc := gc) (ok := okP gc (sigIds sg) w (fun k => F.ok g st k ∨ ∃ q ∈ L, g.S q k)) (fun j hj => ?_) (.inr (hokk hmv)) hres)
    have hb := byCall_rid (d := i) hj h8
    have h2 : rid i j % 8 = j := by have := h8 j hj; unfold rid; omega
    refine ⟨by simp [ghCall, hb, h2], ?_⟩
    rw [dom_app, hR, hb, Bool.true_or, Bool.true_or]
  · intro hmv b' v' hv'
    obtain ⟨t, x, m, y, cs, ty, e1, hb, hblk, hfk⟩ := hbG b' v' (hgB b' v' hv')
    subst e1
    obtain ⟨t2, x2, m2, q1, q2, _⟩ := h.boxes b' _ hb
    injection q1 with q1 _ _
    subst q1
    exact ⟨t, y, .no, rfl, ⟨q2, cs, ty, hblk, VR_ok (hokk hmv) (VR_no.2 hfk)⟩, h.newB b' ⟨_, hb⟩⟩
  · intro q v' hv'
    obtain ⟨hc, hv2⟩ := hgR q v' hv'
    rcases List.mem_append.1 (get_mem hv2) with hm | hm
    · obtain ⟨j, hj, e, e', t, xs, e2, hrr⟩ := hrow _ hm
      injection e2 with e2
      have eq : q = rid d j := kR_inj e
      have h2 : q % 8 = j := by have := h8 j hj; rw [eq]; unfold rid; omega
      refine ⟨e', t, xs, e2, ?_, fun k hk => ?_⟩
      · refine ⟨by show (ghCall g gc d (sigIds sg)).σ q = t; simp only [ghCall, hc, if_true, h2]; exact hrr.1, ?_⟩
        show Kd.S t.kd e' w' 0 ((ghCall g gc d (sigIds sg)).S q) ((ghCall g gc d (sigIds sg)).ρ q) xs
        simp only [ghCall, hc, if_true, h2]
        exact hrr.2
      · have := hSnew hc k hk
        refine ⟨?_, this.2⟩
        rcases this.1 with h1 | h1
        · exact (hXl h1).2
        · exact .inl (Nat.le_trans h.grow h1)
    · have := List.mem_singleton.1 hm
      injection this with e _
      exact (kT_kR _ _ e.symm).elim
  · intro q hq
    rw [hR, Bool.or_eq_true] at hq
    cases hc : byCall d (sigIds sg) q with
    | true =>
      obtain ⟨j, hj, e, h2⟩ := byCall_spec hc
      simp only [ghCall, hc, if_true, h2]
      exact (hid j hj).1
    | false =>
      have hq := hq.resolve_left (by rw [hc]; exact fun e => by cases e)
      have : (ghCall g gc d (sigIds sg)).ρ q = g.ρ q := by simp [ghCall, hc]
      rw [this]
      exact h.isl q (dom_of_alive (hal q ((hLd q).1 hq)))
  · intro b1 b2 hb1 hb2 e
    exact h.dBB b1 b2 (aB b1 hb1) (aB b2 hb2) e
  · intro b1 q hb1 hq hk
    have hb' := aB b1 hb1
    cases hc : byCall d (sigIds sg) q with
    | true =>
      have hk : (ghCall g gc d (sigIds sg)).S q (g.β b1) := hk
      rcases (hSnew hc _ hk).1 with ⟨q0, hq0, h1⟩ | h1
      · exact h.dBR b1 q0 hb' (hal q0 hq0) h1
      · have h2 := h.boxLt hb'
        omega
    | false =>
      rw [hSold hc] at hk
      exact h.dBR b1 q hb' (hold hq hc).2 hk
  · have key : ∀ q q', Alive (((postOf d sg rs ++ bx) ++ drops L) ++ st) (kR q') → byCall d (sigIds sg) q = true → byCall d (sigIds sg) q' = false → ∀ k, (ghCall g gc d (sigIds sg)).S q k → ¬ (ghCall g gc d (sigIds sg)).S q' k := by
      intro q q' hq' hc hc' k hk hk'
      rw [hSold hc'] at hk'
      obtain ⟨hn, ha⟩ := hold hq' hc'
      rcases (hSnew hc k hk).1 with ⟨q0, hq0, h1⟩ | h1
      · exact h.dRR q0 q' (hal q0 hq0) ha (fun e => hn (e ▸ hq0)) k h1 hk'
      · have := (h.newR q' ha k hk').2
        omega
    intro q q' hq hq' hne k hk hk'
    cases hc : byCall d (sigIds sg) q with
    | true =>
      cases hc' : byCall d (sigIds sg) q' with
      | true =>
        obtain ⟨j, hj, e, e1⟩ := byCall_spec hc
        obtain ⟨j', hj', e', e1'⟩ := byCall_spec hc'
        have hk1 : gc.S j k := by simpa [ghCall, hc, e1] using hk
        have hk2 : gc.S j' k := by simpa [ghCall, hc', e1'] using hk'
        refine hdis j hj j' hj' (fun e2 => hne ?_) k hk1 hk2
        rw [e, e', e2]
      | false => exact key q q' hq' hc hc' k hk hk'
    | false =>
      cases hc' : byCall d (sigIds sg) q' with
      | true => exact key q' q hq hc' hc k hk' hk
      | false =>
        rw [hSold hc] at hk
        rw [hSold hc'] at hk'
        exact h.dRR q q' (hold hq hc).2 (hold hq' hc').2 hne k hk hk'
/-- The given rows as the callee numbers them. -/
def ghG (g : Gh) (L : List Nat) : Gh := { g with ρ := fun j => g.ρ (L.getD j 0), σ := fun j => g.σ (L.getD j 0), S := fun j => g.S (L.getD j 0) }
theorem ghG_at {g : Gh} {L : List Nat} {j r : Nat} (h : L[j]? = some r) : (ghG g L).σ j = g.σ r ∧ (ghG g L).S j = g.S r ∧ (ghG g L).ρ j = g.ρ r := by
  have e : L.getD j 0 = r := by rw [List.getD_eq_getElem?_getD, h]; rfl
  exact ⟨by show g.σ _ = _; rw [e], by show g.S _ = _; rw [e], by show g.ρ _ = _; rw [e]⟩
theorem given_facts (h : Rel F g st a w) {xs : List Operand} {ts : List Nat} {as : List AV} {ids l : List Nat} (hr : (argsG T 0 xs ts).run st = some ((as, ids), l)) (hnd : nodup ids = true) :
    (∀ r ∈ ids, Alive st (kR r)) ∧ AVRgs (ghG g ids) w (F.ok g st) as (xs.map a.eval) ∧ LentOk (ghG g ids) w (avIds as) ∧ ∀ k, LentS (ghG g ids) (avIds as) k ↔ ∃ q ∈ ids, g.S q k := by
  obtain ⟨p1, p2, p3⟩ := argsG_spec h hr
  have hj : ∀ j ∈ avIds as, ∃ r, ids[j]? = some r ∧ r ∈ ids := by
    intro j hj
    rw [p1] at hj
    have hj : j < ids.length := by simpa using hj
    exact ⟨_, List.getElem?_eq_getElem hj, List.getElem_mem hj⟩
  refine ⟨p2, p3 [] [] _ rfl (fun j r hj => ghG_at (by simpa using hj)), ⟨fun j h1 => ?_, fun i hi j hj' hne k hk hk' => ?_⟩, fun k => ⟨?_, ?_⟩⟩
  · obtain ⟨r, hr, hm⟩ := hj j h1
    obtain ⟨_, q2, q3⟩ := ghG_at (g := g) hr
    rw [q2, q3]
    exact ⟨h.isl r (dom_of_alive (p2 r hm)), fun k hk => (h.newR r (p2 r hm) k hk).2⟩
  · obtain ⟨r, hr, hm⟩ := hj i hi
    obtain ⟨r', hr', hm'⟩ := hj j hj'
    rw [(ghG_at (g := g) hr).2.1] at hk
    rw [(ghG_at (g := g) hr').2.1] at hk'
    refine h.dRR r r' (p2 r hm) (p2 r' hm') (fun e => hne ?_) k hk hk'
    subst e
    rw [← idx_of hnd hr, ← idx_of hnd hr']
  · rintro ⟨j, h1, hk⟩
    obtain ⟨r, hr, hm⟩ := hj j h1
    rw [(ghG_at (g := g) hr).2.1] at hk
    exact ⟨r, hm, hk⟩
  · rintro ⟨r, hm, hk⟩
    obtain ⟨j, hr⟩ := List.getElem?_of_mem hm
    refine ⟨j, ?_, by rw [(ghG_at (g := g) hr).2.1]; exact hk⟩
    rw [p1]
    simpa using (List.getElem?_eq_some_iff.1 hr).1
theorem op_goG (h : Rel F g st a w) {c : Call} {gn : Nat} (ho : o.op = .call c) (hc : c.callee = .value (.func gn)) (hn : ∀ d, o.dst = some d → F.slot d) {fn : Nat} {as : List AV} {post : Ret → Wr}
    (hr : (goEffG T G o gn c.args.toList c.argTypes.toList).run st = some (.call fn as post, l)) {r : Ret} (hS : ∀ sg, G fn = some sg → Told P sg fn as r) : OpOk P F o st (post r) a w := by
  unfold goEffG at hr
  split at hr
  · rename_i d x xs hd hxs
    split at hr
    · rename_i sg hsg
      obtain ⟨v, l1, l2, h1, h2, _⟩ := run_bind hr
      split at h2
      · rename_i b
        obtain ⟨u, l3, hb, h4, _⟩ := run_rd h2
        split at h4
        · rename_i t y m
          obtain ⟨hem, h5⟩ := run_chk h4
          obtain ⟨z, l5, l6, h6, h7, _⟩ := run_bind h5
          obtain ⟨⟨as1, ids⟩, l7, l8, h8, h9, _⟩ := run_bind h7
          obtain ⟨hck, h10⟩ := run_chk h9
          obtain ⟨hfr, L, h11⟩ := freshP_run h10
          have := run_ret h11
          injection this with e1 e2 e3
          subst e1
          subst e2
          subst e3
          simp only [Bool.and_eq_true] at hck
          obtain ⟨hnd, hnd2, h8a⟩ := hck
          have hlt8 : ∀ j ∈ sigIds sg, j < 8 := fun j hj => by
            have := List.all_eq_true.1 h8a j hj
            exact Nat.le_of_ble_eq_true this
          obtain ⟨fn, hfn, hname, hbody⟩ := (hS sg hsg).said.1
          have hBB := (hS sg hsg).g t z as1 rfl
          obtain ⟨hal, hav, hlo, hls⟩ := given_facts h h8 hnd
          have hx := ev_TV h h1
          simp only [TVR] at hx
          obtain ⟨t', x', m', q1, hτ, cs, ty, hh, hvr⟩ := h.boxes b _ hb
          injection q1 with q1 q2 q3
          subst q1
          cases q2
          cases q3
          have h0 : offp (g.τ b) [] = 0 := by cases g.τ b <;> simp [offp]
          have hx : a.eval x = .pointer (some ⟨g.β b, 0, none⟩) := by rw [hx.1, h0]
          have hids : idsT t m = [] := by simpa using hem
          have hfk : Kd.FK t.kd w (F.ok g st) z cs := Foot.mono (full_FK h h6 hvr) (fun k hk => by
            rcases hk with hk | ⟨q, hq, _⟩
            · exact hk
            · rw [hids] at hq; cases hq)
          have hargs : c.args.map a.eval = (Value.pointer (some ⟨g.β b, 0, none⟩) :: xs.map a.eval).toArray := by
            apply Array.ext'
            simp [hxs, hx]
          have hf : a.eval (.func gn) = .func (.func gn) #[] #[] := by
            have hf := ev_TV h (x := .func gn) (tv := .clo gn []) (l := []) rfl
            simp only [TVR, TVRs] at hf
            obtain ⟨vs, ef, hvs⟩ := hf
            rw [ef, hvs]
          have hrun : (execOp a.eval o).run P w = .ok (.enter gn (Value.pointer (some ⟨g.β b, 0, none⟩) :: xs.map a.eval).toArray) w := by
            have hname' : ¬ fn.name = "runtime.NumGoroutine" := fun e => by rw [e] at hname; simp at hname
            have hbody' : ¬ fn.body = none := fun e => by rw [e] at hbody; cases hbody
            simp [execOp, ho, resolve, hc, hf, Deferred.ofValue, invoke, callFunc, hfn, hname', hbody', hargs]
          intro ops Kc Q hw hK
          unfold Oper.wp
          rw [hrun, Oper.upon_enter]
          refine Calls.mono (hBB w (F.ok g st) _ (g.β b) cs ty (ghG g ids) hh (fun hk => hk.2 (.inl ⟨b, ⟨_, hb⟩, rfl⟩)) hfk hav hlo (fun k hk => ?_)) ?_
          · obtain ⟨q, hq, hk⟩ := (hls k).1 hk
            refine ⟨fun ho => ho.2 (.inr ⟨q, hal q hq, hk⟩), fun e => ?_⟩
            subst e
            exact h.dBR b q ⟨_, hb⟩ (hal q hq) hk
          intro e w' he
          cases e with
          | returned v' =>
            obtain ⟨rs, gc, vs', ⟨y', cs', ty', q1, q2, q3⟩, q4, q5, q6, q7, q8, q9, q10, q11, q12⟩ := he
            subst q1
            show Kc (a.put o.dst v') w'
            rw [hd]
            have hok : ∀ k, okP gc (sigIds sg) w (fun k => F.ok g st k ∨ LentS (ghG g ids) (avIds as1) k) k → okP gc (sigIds sg) w (fun k => F.ok g st k ∨ ∃ q ∈ ids, g.S q k) k := fun k hk => ⟨hk.1.imp (fun h => h.imp id (hls k).1) id, hk.2⟩
            refine hK _ _ _ (h.calledG (hn d hd) (L := ids) (bx := [(kB b, some (.box t y' .no))]) (gc := gc) (vs := vs') hlt8 hfr hal (fun i => dom_one_ne _ (kT_kB i b).symm) (fun q => dom_one_ne _ (kB_kR b q)) (fun b' hb' => ?_) (fun b' v hv => ?_) q4 q5 q6 q7 (fun k hk hx hne => q8 k hk (fun hl => hx ((hls k).1 hl)) (fun b' t' e => ?_)) q9 (ResR_ok (fun k hk _ => hok k hk) q10)
              (fun j hj => ⟨(q11 j hj).1, fun k hk => ⟨((q11 j hj).2 k hk).1.imp (hls k).1 id, ((q11 j hj).2 k hk).2⟩⟩) q12)
            · by_cases e : b' = b
              · subst e; exact ⟨_, hb⟩
              · rw [dom_one_ne _ (fun e' => e (kB_inj e').symm)] at hb'; cases hb'
            · by_cases e : b' = b
              · subst e
                rw [get_cons_same] at hv
                exact ⟨t, y, m, y', cs', ty', (Option.some.inj hv).symm, hb, q2, Foot.mono q3 hok⟩
              · rw [get_cons_ne _ _ (fun e' => e (kB_inj e').symm)] at hv; cases hv
            · injection e with e
              injection e with e _
              rw [← e]
              exact hne b (dom_cons_same _ _ _)
          | panicked ch => exact he.elim
          | outgrown => exact he.elim
        · exact (run_fail h4).elim
      · exact (run_fail h2).elim
    · exact (run_fail hr).elim
  · exact (run_fail hr).elim
theorem op_goV (h : Rel F g st a w) {c : Call} {gn : Nat} (ho : o.op = .call c) (hc : c.callee = .value (.func gn)) (hn : ∀ d, o.dst = some d → F.slot d) {fn : Nat} {as : List AV} {post : Ret → Wr}
    (hr : (goEffV T G o gn c.args.toList c.argTypes.toList).run st = some (.call fn as post, l)) {r : Ret} (hS : ∀ sg, G fn = some sg → Told P sg fn as r) : OpOk P F o st (post r) a w := by
  unfold goEffV at hr
  split at hr
  · rename_i d hd
    split at hr
    · rename_i sg hsg
      obtain ⟨⟨as1, ids⟩, l7, l8, h8, h9, _⟩ := run_bind hr
      obtain ⟨hck, h10⟩ := run_chk h9
      obtain ⟨hfr, L, h11⟩ := freshP_run h10
      have := run_ret h11
      injection this with e1 e2 e3
      subst e1
      subst e2
      subst e3
      simp only [Bool.and_eq_true] at hck
      obtain ⟨hnd, hnd2, h8a⟩ := hck
      have hlt8 : ∀ j ∈ sigIds sg, j < 8 := fun j hj => by
        have := List.all_eq_true.1 h8a j hj
        exact Nat.le_of_ble_eq_true this
      obtain ⟨fn, hfn, hname, hbody⟩ := (hS sg hsg).said.1
      have hBB := (hS sg hsg).v as1 rfl
      obtain ⟨hal, hav, hlo, hls⟩ := given_facts h h8 hnd
      have hargs : c.args.map a.eval = (c.args.toList.map a.eval).toArray := by
        apply Array.ext'
        simp
      have hf : a.eval (.func gn) = .func (.func gn) #[] #[] := by
        have hf := ev_TV h (x := .func gn) (tv := .clo gn []) (l := []) rfl
        simp only [TVR, TVRs] at hf
        obtain ⟨vs, ef, hvs⟩ := hf
        rw [ef, hvs]
      have hrun : (execOp a.eval o).run P w = .ok (.enter gn (c.args.toList.map a.eval).toArray) w := by
        have hname' : ¬ fn.name = "runtime.NumGoroutine" := fun e => by rw [e] at hname; simp at hname
        have hbody' : ¬ fn.body = none := fun e => by rw [e] at hbody; cases hbody
        simp [execOp, ho, resolve, hc, hf, Deferred.ofValue, invoke, callFunc, hfn, hname', hbody', hargs]
      intro ops Kc Q hw hK
      unfold Oper.wp
      rw [hrun, Oper.upon_enter]
      refine Calls.mono (hBB w (F.ok g st) _ (ghG g ids) hav hlo (fun k hk => ?_)) ?_
      · obtain ⟨q, hq, hk⟩ := (hls k).1 hk
        exact fun ho => ho.2 (.inr ⟨q, hal q hq, hk⟩)
      intro e w' he
      cases e with
      | returned v' =>
        obtain ⟨rs, gc, vs', q1, q4, q5, q6, q7, q8, q9, q10, q11, q12⟩ := he
        have q1 : r = rs := q1
        subst q1
        show Kc (a.put o.dst v') w'
        rw [hd]
        have hok : ∀ k, okP gc (sigIds sg) w (fun k => F.ok g st k ∨ LentS (ghG g ids) (avIds as1) k) k → okP gc (sigIds sg) w (fun k => F.ok g st k ∨ ∃ q ∈ ids, g.S q k) k := fun k hk => ⟨hk.1.imp (fun h => h.imp id (hls k).1) id, hk.2⟩
        have := h.calledG (hn d hd) (L := ids) (bx := []) (gc := gc) (vs := vs') hlt8 hfr hal (fun i => rfl) (fun q => rfl) (fun b' hb' => by cases hb') (fun b' v hv => by cases hv) q4 q5 q6 q7 (fun k hk hx hne => q8 k hk (fun hl => hx ((hls k).1 hl)) (fun b' t' e => by cases e)) q9 (ResR_ok (fun k hk _ => hok k hk) q10)
          (fun j hj => ⟨(q11 j hj).1, fun k hk => ⟨((q11 j hj).2 k hk).1.imp (hls k).1 id, ((q11 j hj).2 k hk).2⟩⟩) q12
        rw [List.append_nil] at this
        exact hK _ _ _ this
      | panicked ch => exact he.elim
      | outgrown => exact he.elim
    · exact (run_fail hr).elim
  · exact (run_fail hr).elim
end
end Go.Proofs.YtcmjbplnjjdcdaaGreat.Ref

namespace Go.Proofs.YtcmjbplnjjdcdaaGreat.Ref
open Go.RowKit Go.Proofs.YtcmjbplnjjdcdaaGreatW.PrintWords Go.Proofs.YtcmjbplnjjdcdaaGreatW.PrintLast

section
variable {P : Program} {T : Tab} {G : Sigs} {F : Fx} {g : Gh} {st : St} {a : Act} {w w' : World} {o : Oper} {d : Nat} {l : List Nat} {wr : Wr} {D : Nat → Bool} {ok ok' : Nat → Prop}
theorem argsF_AVR (h : Rel F g st a w) : ∀ {xs : List Operand} {ts : List Nat} {as : List AV} {ids l : List Nat}, (argsF T xs ts).run st = some ((as, ids), l) → (∀ r ∈ ids, Alive st (kR r)) ∧ ∀ {ids' : List Nat}, (∀ r ∈ ids, r ∈ ids') → (∀ r ∈ ids', Alive st (kR r)) → AVRs w (F.ok g (drops ids' ++ st)) as (xs.map a.eval)
  | [], ts, as, ids, l, hr => by
    have := run_ret hr
    injection this with e1 e2
    subst e1
    subst e2
    exact ⟨fun r hr => (List.not_mem_nil hr).elim, fun _ _ => rfl⟩
  | x :: xs, ts, as, ids, l, hr => by
    obtain ⟨v, l1, l2, h1, h2, _⟩ := run_bind hr
    split at h2
    · rename_i t y m
      obtain ⟨z, l3, l4, h3, h4, _⟩ := run_bind h2
      obtain ⟨⟨as', ids'⟩, l5, l6, h5, h6, _⟩ := run_bind h4
      have := run_ret h6
      injection this with e1 e2
      subst e1
      subst e2
      obtain ⟨p1, p2⟩ := argsF_AVR h h5
      refine ⟨fun r hr => (List.mem_append.1 hr).elim (full_alive h3 r) (p1 r), fun {J} hJ hA => ⟨_, _, rfl, ?_, p2 (fun r hr => hJ r (List.mem_append.2 (.inr hr))) hA⟩⟩
      have hv := evt_TV h h1
      simp only [TVR] at hv
      obtain ⟨cs, e, hv⟩ := hv
      exact ⟨cs, e, Foot.mono (full_FK h h3 hv) (fun k hk => frozen_ok h hA (hk.imp id (fun ⟨r, hr, hs⟩ => ⟨r, hJ r (List.mem_append.2 (.inl hr)), hs⟩)))⟩
    · exact (run_fail h2).elim
theorem Rel.calledB (h : Rel F g st a w) {d b : Nat} (hd : F.slot d) {sg : Sig} {t : Ty} {x : t.den} {m : Mk} {r : Ret} {v : Value} {w' : World} (hb : get st (kB b) = some (.box t x m))
    (h8 : ∀ j ∈ sigIds sg, j < 8) (hfr : ∀ j ∈ sigIds sg, dom st (kR (rid d j)) = false) (hp : PostB sg w (F.ok g st) (g.β b) t r v w') :
    ∃ (y : t.den) (rs : Ret) (g' : Gh), r = ⟨t, y⟩ :: rs ∧ Rel F g' ((postOf d sg rs ++ [(kB b, some (.box t y .no))]) ++ st) (a.put (some d) v) w' := by
  obtain ⟨y, rs, gc, vs, cs, ty, hrr, hos, htp, hout, hgrow, hfr2, hblk, hfk, hv, hres, hid, hdis⟩ := hp
  refine ⟨y, rs, ghCall g gc d (sigIds sg), hrr, ?_⟩
  have hab : Alive st (kB b) := ⟨_, hb⟩
  have hrow := takeVals_get (d := d) hres
  have hrow1 : ∀ p ∈ (takeVals d sg rs).1, ∃ j ∈ sigIds sg, p.1 = kR (rid d j) := fun p hp => by obtain ⟨j, hj, e, _⟩ := hrow p hp; exact ⟨j, hj, e⟩
  have hdom := takeVals_dom (d := d) hres
  have hT0 := fun i => postOf_T (i := i) hrow1
  have hB0 := fun b => postOf_B (b := b) hrow1
  have hR0 := fun q => postOf_R (q := q) hrow1 hdom h8
  have hT : ∀ i, (dom (postOf d sg rs ++ [(kB b, some (.box t y .no))]) (kT i) = true ↔ i = d) ∧ (∀ v, get (postOf d sg rs ++ [(kB b, some (.box t y .no))]) (kT i) = some v → i = d ∧ v = .tv (match (takeVals d sg rs).2 with
    | [v] => v
    | vs => .tup vs)) := by
    intro i
    constructor
    · rw [dom_app, dom_one_ne _ (kT_kB i b).symm, Bool.or_false]
      exact (hT0 i).1
    · intro v hv
      cases hq : dom (postOf d sg rs) (kT i) with
      | true => rw [get_app_in hq] at hv; exact (hT0 i).2 v hv
      | false => rw [get_app_out hq, get_cons_ne _ _ (kT_kB i b).symm] at hv; cases hv
  have hB : ∀ b', (dom (postOf d sg rs ++ [(kB b, some (.box t y .no))]) (kB b') = true ↔ b' = b) ∧ (∀ v, get (postOf d sg rs ++ [(kB b, some (.box t y .no))]) (kB b') = some v → b' = b ∧ v = .box t y .no) := by
    intro b'
    constructor
    · rw [dom_app, hB0, Bool.false_or]
      by_cases e : b' = b
      · subst e; simp [dom_cons_same]
      · rw [dom_one_ne _ (fun e' => e (kB_inj e').symm)]; simp [e]
    · intro v hv
      rw [get_app_out (hB0 b')] at hv
      by_cases e : b' = b
      · subst e
        rw [get_cons_same] at hv
        exact ⟨rfl, (Option.some.inj hv).symm⟩
      · rw [get_cons_ne _ _ (fun e' => e (kB_inj e').symm)] at hv; cases hv
  have hR : ∀ q, dom (postOf d sg rs ++ [(kB b, some (.box t y .no))]) (kR q) = byCall d (sigIds sg) q := by
    intro q
    rw [dom_app, dom_one_ne _ (kB_kR b q), Bool.or_false]
    exact hR0 q
  have aB : ∀ b', Alive ((postOf d sg rs ++ [(kB b, some (.box t y .no))]) ++ st) (kB b') → Alive st (kB b') := by
    intro b' ha
    by_cases e : b' = b
    · subst e; exact hab
    · refine (alive_app_out ?_).1 ha
      cases hq : dom (postOf d sg rs ++ [(kB b, some (.box t y .no))]) (kB b') with
      | false => rfl
      | true => exact (e ((hB b').1.1 hq)).elim
  have hnew : ∀ {q}, dom st (kR q) = true → byCall d (sigIds sg) q = false := by
    intro q hq
    cases e : byCall d (sigIds sg) q with
    | false => rfl
    | true =>
      obtain ⟨j, hj, rfl, _⟩ := byCall_spec e
      rw [hfr j hj] at hq
      cases hq
  have hSnew : ∀ {q}, byCall d (sigIds sg) q = true → ∀ k, (ghCall g gc d (sigIds sg)).S q k → w.heap.size ≤ k ∧ k < w'.heap.size := by
    intro q hq k hk
    have hk' : gc.S (q % 8) k := by simpa [ghCall, hq] using hk
    obtain ⟨j, hj, _, e⟩ := byCall_spec hq
    rw [e] at hk'
    exact (hid j hj).2 k hk'
  have hSold : ∀ {q}, byCall d (sigIds sg) q = false → (ghCall g gc d (sigIds sg)).S q = g.S q := by
    intro q hq
    simp [ghCall, hq]
  have hold : ∀ {q}, Alive ((postOf d sg rs ++ [(kB b, some (.box t y .no))]) ++ st) (kR q) → byCall d (sigIds sg) q = false → Alive st (kR q) := by
    intro q ha hq
    exact (alive_app_out (by rw [hR, hq])).1 ha
  have hokk : Mv g (ghCall g gc d (sigIds sg)) (dom st) (dom ((postOf d sg rs ++ [(kB b, some (.box t y .no))]) ++ st)) w w' (F.ok g st) (F.ok (ghCall g gc d (sigIds sg)) ((postOf d sg rs ++ [(kB b, some (.box t y .no))]) ++ st)) → ∀ k, okP gc (sigIds sg) w (F.ok g st) k → k < w'.heap.size → F.ok (ghCall g gc d (sigIds sg)) ((postOf d sg rs ++ [(kB b, some (.box t y .no))]) ++ st) k := by
    intro hmv k hk hlt
    have hlim : F.w0.heap.size ≤ w.heap.size := h.grow
    by_cases hkl : k < w.heap.size
    · have hk1 : F.ok g st k := by
        rcases hk.1 with h1 | h1
        · exact h1
        · omega
      exact hmv.ok k hk1 hkl
    · refine ⟨.inr (.inl (by omega)), ?_⟩
      rintro (⟨b', hb', e⟩ | ⟨q, hq, e⟩)
      · have := h.boxLt (aB b' hb')
        have e' : g.β b' = k := e
        omega
      · cases hc : byCall d (sigIds sg) q with
        | true =>
          have e' : gc.S (q % 8) k := by simpa [ghCall, hc] using e
          obtain ⟨j, hj, _, ej⟩ := byCall_spec hc
          rw [ej] at e'
          exact hk.2 j hj e'
        | false =>
          rw [hSold hc] at e
          have := (h.newR q (hold hq hc) k e).2
          omega
  refine h.upd (ghCall g gc d (sigIds sg)) (postOf d sg rs ++ [(kB b, some (.box t y .no))]) (a.put (some d) v) w' (fun k => k = g.β b) (by rw [put_size, h.size]) (fun i hi => by cases e : dom (postOf d sg rs ++ [(kB b, some (.box t y .no))]) (kT i) with | false => rfl | true => have h1 := (hT i).1.1 e; have h2 := hd.1; omega) (by rw [put_defers, h.defers]) hos htp hout hgrow (fun k hk hne => hfr2 k hk hne) (fun k hk => .inl ⟨b, hab, hk.symm⟩) (fun _ _ => rfl) (fun _ _ => rfl) ?_ ?_ ?_ ?_ ?_ ?_ ?_ ?_ ?_ ?_ ?_ ?_ ?_ ?_
  · intro q hq; simp [ghCall, hnew hq]
  · intro q hq; simp [ghCall, hnew hq]
  · intro q _ hq
    rw [hR] at hq
    exact hSold hq
  · rintro k hk (⟨b', hb', e⟩ | ⟨q, hq, e⟩)
    · exact .inl ⟨b', aB b' hb', e⟩
    · cases hc : byCall d (sigIds sg) q with
      | true =>
        have := hSnew hc k e
        omega
      | false =>
        rw [hSold hc] at e
        exact .inr ⟨q, hold hq hc, e⟩
  · intro b' hb' hd' e
    have := h.dBB b' b hb' hab e
    rw [(hB b').1.2 this] at hd'
    cases hd'
  · intro q hq _ k hk e
    subst e
    exact h.dBR b q hab hq hk
  · intro i hi
    refine put_ne (fun e => ?_)
    rw [(hT i).1.2 e] at hi
    cases hi
  · intro hmv i v' hv'
    obtain ⟨e1, e2⟩ := (hT i).2 v' hv'
    subst e1
    subst e2
    refine ⟨_, rfl, ?_⟩
    rw [put_same (by rw [h.size]; exact hd.2), hv]
    refine tupled_TV (takeVals_TV (gc := gc) (ok := okP gc (sigIds sg) w (F.ok g st)) (fun j hj => ?_) (.inr (hokk hmv)) hres)
    have hb := byCall_rid (d := i) hj h8
    have h2 : rid i j % 8 = j := by have := h8 j hj; unfold rid; omega
    refine ⟨by simp [ghCall, hb, h2], ?_⟩
    rw [dom_app, hR, hb, Bool.true_or]
  · intro hmv b' v' hv'
    obtain ⟨e1, e2⟩ := (hB b').2 v' hv'
    subst e1
    subst e2
    obtain ⟨t2, x2, m2, q1, q2, _⟩ := h.boxes b' _ hb
    injection q1 with q1 _ _
    subst q1
    exact ⟨t, y, .no, rfl, ⟨q2, cs, ty, hblk, VR_ok (hokk hmv) (VR_no.2 hfk)⟩, h.newB b' hab⟩
  · intro q v' hv'
    have hc : byCall d (sigIds sg) q = true := by rw [← hR]; exact dom_of_get hv'
    have hv2 : get (postOf d sg rs) (kR q) = some v' := by
      rwa [get_app_in (by rw [hR0]; exact hc)] at hv'
    rcases List.mem_append.1 (get_mem hv2) with hm | hm
    · obtain ⟨j, hj, e, e', t, xs, e2, hrr⟩ := hrow _ hm
      injection e2 with e2
      have eq : q = rid d j := kR_inj e
      have h2 : q % 8 = j := by have := h8 j hj; rw [eq]; unfold rid; omega
      refine ⟨e', t, xs, e2, ?_, fun k hk => ?_⟩
      · refine ⟨by show (ghCall g gc d (sigIds sg)).σ q = t; simp only [ghCall, hc, if_true, h2]; exact hrr.1, ?_⟩
        show Kd.S t.kd e' w' 0 ((ghCall g gc d (sigIds sg)).S q) ((ghCall g gc d (sigIds sg)).ρ q) xs
        simp only [ghCall, hc, if_true, h2]
        exact hrr.2
      · have := hSnew hc k hk
        exact ⟨.inl (Nat.le_trans h.grow this.1), this.2⟩
    · have := List.mem_singleton.1 hm
      injection this with e _
      exact (kT_kR _ _ e.symm).elim
  · intro q hq
    rw [hR] at hq
    obtain ⟨j, hj, e, h2⟩ := byCall_spec hq
    simp only [ghCall, hq, if_true, h2]
    exact (hid j hj).1
  · intro b1 b2 hb1 hb2 e
    exact h.dBB b1 b2 (aB b1 hb1) (aB b2 hb2) e
  · intro b1 q hb1 hq hk
    have hb' := aB b1 hb1
    cases hc : byCall d (sigIds sg) q with
    | true =>
      have h1 := hSnew hc _ hk
      have h2 := h.boxLt hb'
      have h3 : w.heap.size ≤ g.β b1 := h1.1
      omega
    | false =>
      rw [hSold hc] at hk
      exact h.dBR b1 q hb' (hold hq hc) hk
  · intro q q' hq hq' hne k hk hk'
    cases hc : byCall d (sigIds sg) q with
    | true =>
      cases hc' : byCall d (sigIds sg) q' with
      | true =>
        obtain ⟨j, hj, e, e1⟩ := byCall_spec hc
        obtain ⟨j', hj', e', e1'⟩ := byCall_spec hc'
        have hk1 : gc.S j k := by simpa [ghCall, hc, e1] using hk
        have hk2 : gc.S j' k := by simpa [ghCall, hc', e1'] using hk'
        refine hdis j hj j' hj' (fun e2 => hne ?_) k hk1 hk2
        rw [e, e', e2]
      | false =>
        have h1 := hSnew hc k hk
        rw [hSold hc'] at hk'
        have := (h.newR q' (hold hq' hc') k hk').2
        omega
    | false =>
      rw [hSold hc] at hk
      cases hc' : byCall d (sigIds sg) q' with
      | true =>
        have h1 := hSnew hc' k hk'
        have := (h.newR q (hold hq hc) k hk).2
        omega
      | false =>
        rw [hSold hc'] at hk'
        exact h.dRR q q' (hold hq hc) (hold hq' hc') hne k hk hk'
theorem fresh_freeze {d : Nat} {ids J : List Nat} (hJ : ∀ r ∈ J, Alive st (kR r)) (h : ∀ j ∈ ids, dom st (kR (rid d j)) = false) : ∀ j ∈ ids, dom (drops J ++ st) (kR (rid d j)) = false := by
  intro j hj
  rw [dom_app, h j hj, Bool.or_false]
  cases hd : dom (drops J) (kR (rid d j)) with
  | false => rfl
  | true =>
    obtain ⟨r, hr, e⟩ := drops_only hd
    have := dom_of_alive (hJ r hr)
    rw [← e, h j hj] at this
    cases this
theorem op_goB (h : Rel F g st a w) {c : Call} {gn : Nat} (ho : o.op = .call c) (hc : c.callee = .value (.func gn)) (hn : ∀ d, o.dst = some d → F.slot d) {fn : Nat} {as : List AV} {post : Ret → Wr}
    (hr : (goEffB T G o gn c.args.toList c.argTypes.toList).run st = some (.call fn as post, l)) {r : Ret} (hS : ∀ sg, G fn = some sg → Told P sg fn as r) : OpOk P F o st (post r) a w := by
  unfold goEffB at hr
  split at hr
  · rename_i d x xs hd hxs
    split at hr
    · rename_i sg hsg
      obtain ⟨v, l1, l2, h1, h2, _⟩ := run_bind hr
      split at h2
      · rename_i b
        obtain ⟨u, l3, hb, h4, _⟩ := run_rd h2
        split at h4
        · rename_i t y m
          obtain ⟨hem, h5⟩ := run_chk h4
          obtain ⟨z, l5, l6, h6, h7, _⟩ := run_bind h5
          obtain ⟨⟨as1, ids⟩, l7, l8, h8, h9, _⟩ := run_bind h7
          obtain ⟨hck, h10⟩ := run_chk h9
          obtain ⟨hfr, L, h11⟩ := freshP_run h10
          have := run_ret h11
          injection this with e1 e2 e3
          subst e1
          subst e2
          subst e3
          simp only [Bool.and_eq_true] at hck
          obtain ⟨hnd, hnd2, h8a⟩ := hck
          have hlt8 : ∀ j ∈ sigIds sg, j < 8 := fun j hj => by
            have := List.all_eq_true.1 h8a j hj
            exact Nat.le_of_ble_eq_true this
          obtain ⟨fn, hfn, hname, hbody⟩ := (hS sg hsg).said.1
          have hBB := ((hS sg hsg).g t z as1 rfl).toB
          obtain ⟨hal, hav⟩ := argsF_AVR h h8
          have hav := hav (ids' := ids) (fun _ h => h) hal
          have h1f := h.freeze hal
          have hx := ev_TV h h1
          simp only [TVR] at hx
          obtain ⟨t', x', m', q1, hτ, cs, ty, hh, hvr⟩ := h.boxes b _ hb
          injection q1 with q1 q2 q3
          subst q1
          cases q2
          cases q3
          have h0 : offp (g.τ b) [] = 0 := by cases g.τ b <;> simp [offp]
          have hx : a.eval x = .pointer (some ⟨g.β b, 0, none⟩) := by rw [hx.1, h0]
          have hids : idsT t m = [] := by simpa using hem
          have hfk : Kd.FK t.kd w (F.ok g (drops ids ++ st)) z cs := Foot.mono (full_FK h h6 hvr) (fun k hk => by
            rcases hk with hk | ⟨q, hq, _⟩
            · exact frozen_ok h hal (.inl hk)
            · rw [hids] at hq; cases hq)
          have hb1 : get (drops ids ++ st) (kB b) = some (.box t y m) := by rw [get_app_out (dom_drops_B _ _)]; exact hb
          have hargs : c.args.map a.eval = (Value.pointer (some ⟨g.β b, 0, none⟩) :: xs.map a.eval).toArray := by
            apply Array.ext'
            simp [hxs, hx]
          have hf : a.eval (.func gn) = .func (.func gn) #[] #[] := by
            have hf := ev_TV h (x := .func gn) (tv := .clo gn []) (l := []) rfl
            simp only [TVR, TVRs] at hf
            obtain ⟨vs, ef, hvs⟩ := hf
            rw [ef, hvs]
          have hrun : (execOp a.eval o).run P w = .ok (.enter gn (Value.pointer (some ⟨g.β b, 0, none⟩) :: xs.map a.eval).toArray) w := by
            have hname' : ¬ fn.name = "runtime.NumGoroutine" := fun e => by rw [e] at hname; simp at hname
            have hbody' : ¬ fn.body = none := fun e => by rw [e] at hbody; cases hbody
            simp [execOp, ho, resolve, hc, hf, Deferred.ofValue, invoke, callFunc, hfn, hname', hbody', hargs]
          intro ops Kc Q hw hK
          unfold Oper.wp
          rw [hrun, Oper.upon_enter]
          refine Calls.mono (hBB w (F.ok g (drops ids ++ st)) _ (g.β b) cs ty hh (fun hk => hk.2 (.inl ⟨b, ⟨_, hb1⟩, rfl⟩)) hfk hav) ?_
          intro e w' he
          cases e with
          | returned v' =>
            obtain ⟨y', rs, g', hrr, hg'⟩ := h1f.calledB (hn d hd) hb1 hlt8 (fresh_freeze hal hfr) he
            subst hrr
            show Kc (a.put o.dst v') w'
            rw [hd]
            refine hK g' _ _ ?_
            show Rel F g' (((postOf d sg rs ++ [(kB b, some (.box t y' .no))]) ++ drops ids) ++ st) _ w'
            rw [List.append_assoc]
            exact hg'
          | panicked ch => exact he.elim
          | outgrown => exact he.elim
        · exact (run_fail h4).elim
      · exact (run_fail h2).elim
    · exact (run_fail hr).elim
  · exact (run_fail hr).elim
/-- A pointer to a new variable is handed back. -/
theorem Rel.gotBox (h : Rel F g st a w) {d : Nat} (hd : F.slot d) {t : Ty} {x : t.den} {cs : List Value} {blk E : Nat} {w' : World} (hf : dom st (kB d) = false) (hbl : Below w.heap.size w w') (hblk : w.heap.size ≤ blk) (hnew : w'.heap[blk]? = some (.cells cs.toArray E (0, 0)))
    (hfk : Kd.FK t.kd w' (fun k => (F.ok g st k ∨ w.heap.size ≤ k) ∧ k ≠ blk) x cs) :
    ∃ g', Rel F g' ((kB d, some (.box t x .no)) :: (kT d, some (.tv (.box d []))) :: st) (a.put (some d) (.pointer (some ⟨blk, 0, none⟩))) w' := by
  let g' : Gh := { g with β := updF g.β d blk, τ := updF g.τ d t }
  let wr : Wr := [(kB d, some (.box t x .no)), (kT d, some (.tv (.box d [])))]
  have hne : ∀ b, dom st (kB b) = true → b ≠ d := fun b hb e => by subst e; rw [hf] at hb; cases hb
  have dB : ∀ b, b ≠ d → dom wr (kB b) = false := fun b hb => by
    show dom [(kB d, some (Val.box t x .no)), (kT d, some (.tv (.box d [])))] (kB b) = false
    rw [dom_cons_ne _ _ (fun e => hb (kB_inj e).symm), dom_one_ne _ (kT_kB d b)]
  have dR : ∀ r, dom wr (kR r) = false := fun r => by
    show dom [(kB d, some (Val.box t x .no)), (kT d, some (.tv (.box d [])))] (kR r) = false
    rw [dom_cons_ne _ _ (kB_kR d r), dom_one_ne _ (kT_kR d r)]
  have gB : ∀ b v, get wr (kB b) = some v → b = d ∧ v = .box t x .no := fun b v hv => by
    by_cases e : b = d
    · subst e
      have : get wr (kB b) = some (Val.box t x .no) := get_cons_same _ _ _
      rw [this] at hv
      exact ⟨rfl, (Option.some.inj hv).symm⟩
    · have h0 := dB b e
      have : dom wr (kB b) = true := dom_of_get hv
      rw [h0] at this; cases this
  have hpush : ∀ k, k < w.heap.size → w'.heap[k]? = w.heap[k]? := hbl.block
  have aB : ∀ b, Alive (wr ++ st) (kB b) → b = d ∨ (b ≠ d ∧ Alive st (kB b)) := fun b hb => by
    by_cases e : b = d
    · exact .inl e
    · exact .inr ⟨e, (alive_app_out (dB b e)).1 hb⟩
  have aR : ∀ r, Alive (wr ++ st) (kR r) → Alive st (kR r) := fun r hr => (alive_app_out (dR r)).1 hr
  have βd : g'.β d = blk := updF_same _ _ _
  have βo : ∀ b, b ≠ d → g'.β b = g.β b := fun b hb => updF_ne hb
  have hmut : ∀ k, Mut g' (wr ++ st) k → k = blk ∨ Mut g st k := by
    rintro k (⟨b, hb, rfl⟩ | ⟨r, hr, hk⟩)
    · rcases aB b hb with rfl | ⟨e, hb⟩
      · exact .inl βd
      · exact .inr (.inl ⟨b, hb, (βo b e).symm⟩)
    · exact .inr (.inr ⟨r, aR r hr, hk⟩)
  refine ⟨g', h.upd g' wr (a.put (some d) (.pointer (some ⟨blk, 0, none⟩))) w' (fun _ => False) (by rw [put_size, h.size]) (fun i hi => by
      show dom [(kB d, some (Val.box t x .no)), (kT d, some (.tv (.box d [])))] (kT i) = false
      rw [dom_cons_ne _ _ (kT_kB i d).symm]
      exact dom_one_ne _ (fun e => by have h1 := kT_inj e; have h2 := hd.1; omega)) (by rw [put_defers, h.defers]) hbl.os hbl.tape hbl.output hbl.size (fun k hk _ => hpush k hk) (fun _ hk => hk.elim)
    (fun b hb => βo b (hne b hb)) (fun b hb => updF_ne (hne b hb)) (fun _ _ => rfl) (fun _ _ => rfl) (fun _ _ _ => rfl)
    (fun k hk hm => (hmut k hm).resolve_left (by omega)) (fun _ _ _ hk => hk) (fun _ _ _ _ _ hk => hk) ?_ ?_ ?_ (fun r v hv => ?_) (fun r hr => by rw [dR r] at hr; cases hr) ?_ ?_ ?_⟩
  · intro i hi
    refine put_ne (fun e => ?_)
    subst e
    have : dom wr (kT i) = true := by
      show dom [(kB i, some (Val.box t x .no)), (kT i, some (.tv (.box i [])))] (kT i) = true
      rw [dom_cons_ne _ _ (kT_kB i i).symm, dom_cons_same]
    rw [this] at hi; cases hi
  · intro hmv i v hv
    have hv2 : get [(kB d, some (Val.box t x .no)), (kT d, some (.tv (.box d [])))] (kT i) = some v := hv
    rw [get_cons_ne _ _ (kT_kB i d).symm] at hv2
    by_cases e : i = d
    · subst e
      rw [get_one_same] at hv2
      injection hv2 with hv2
      subst hv2
      refine ⟨_, rfl, ?_⟩
      rw [put_same (by rw [h.size]; exact hd.2)]
      simp only [TVR]
      refine ⟨?_, ?_⟩
      · rw [βd]
        have : offp (g'.τ i) [] = 0 := by cases g'.τ i <;> rfl
        rw [this]
      · show dom ((kB i, _) :: _) (kB i) = true
        exact dom_cons_same _ _ _
    · rw [get_one_ne _ (fun e' => e (kT_inj e').symm)] at hv2
      cases hv2
  · intro hmv b v hv
    obtain ⟨rfl, rfl⟩ := gB b v hv
    have hgw := h.grow
    refine ⟨t, x, .no, rfl, ⟨updF_same _ _ _, cs, E, ?_, VR_ok (ok := fun k => (F.ok g st k ∨ w.heap.size ≤ k) ∧ k ≠ blk) (fun k hk hlt => ?_) (VR_no.2 hfk)⟩, .inl ?_⟩
    · rw [βd]; exact hnew
    · by_cases hkl : k < w.heap.size
      · exact hmv.ok k (hk.1.resolve_right (by omega)) hkl
      · refine ⟨.inr (.inl (by omega)), fun hm => ?_⟩
        rcases hmut k hm with h1 | h1
        · exact hk.2 h1
        · have := h.mutLt h1
          omega
    · rw [βd]; omega
  · have := dR r
    rw [dom_of_get hv] at this
    cases this
  · intro b b' hb hb' e
    rcases aB b hb with e1 | ⟨e1, hb1⟩ <;> rcases aB b' hb' with e2 | ⟨e2, hb2⟩
    · rw [e1, e2]
    · rw [e1, βd, βo b' e2] at e
      have := h.boxLt hb2
      omega
    · rw [e2, βd, βo b e1] at e
      have := h.boxLt hb1
      omega
    · rw [βo b e1, βo b' e2] at e
      exact h.dBB b b' hb1 hb2 e
  · intro b r hb hr hk
    rcases aB b hb with e1 | ⟨e1, hb1⟩
    · rw [e1, βd] at hk
      have := (h.newR r (aR r hr) _ hk).2
      omega
    · rw [βo b e1] at hk
      exact h.dBR b r hb1 (aR r hr) hk
  · intro r r' hr hr' hne k hk
    exact h.dRR r r' (aR r hr) (aR r' hr') hne k hk

theorem op_goN (h : Rel F g st a w) {c : Call} {gn : Nat} (ho : o.op = .call c) (hc : c.callee = .value (.func gn)) (hn : ∀ d, o.dst = some d → F.slot d) {fn : Nat} {as : List AV} {post : Ret → Wr}
    (hr : (goEffN T G o gn c.args.toList c.argTypes.toList).run st = some (.call fn as post, l)) {r : Ret} (hS : ∀ sg, G fn = some sg → Told P sg fn as r) : OpOk P F o st (post r) a w := by
  unfold goEffN at hr
  split at hr
  · rename_i d hd
    split at hr
    · rename_i sg hsg
      obtain ⟨⟨as1, ids⟩, l1, l2, h1, h2, _⟩ := run_bind hr
      obtain ⟨hnd, h3⟩ := run_chk h2
      obtain ⟨l4, hfr, h5, _⟩ := run_fresh h3
      have := run_ret h5
      injection this with e1 e2 e3
      subst e1
      subst e2
      subst e3
      obtain ⟨fn, hfn, hname, hbody⟩ := (hS sg hsg).said.1
      have hNN := (hS sg hsg).n .bool true as1 rfl
      obtain ⟨hal, hav⟩ := argsF_AVR h h1
      have hav := hav (ids' := ids) (fun _ h => h) hal
      have h1f := h.freeze hal
      have hf : a.eval (.func gn) = .func (.func gn) #[] #[] := by
        have hf := ev_TV h (x := .func gn) (tv := .clo gn []) (l := []) rfl
        simp only [TVR, TVRs] at hf
        obtain ⟨vs, ef, hvs⟩ := hf
        rw [ef, hvs]
      have hargs : c.args.map a.eval = (c.args.toList.map a.eval).toArray := by
        apply Array.ext'
        simp
      have hrun : (execOp a.eval o).run P w = .ok (.enter gn (c.args.toList.map a.eval).toArray) w := by
        have hname' : ¬ fn.name = "runtime.NumGoroutine" := fun e => by rw [e] at hname; simp at hname
        have hbody' : ¬ fn.body = none := fun e => by rw [e] at hbody; cases hbody
        simp [execOp, ho, resolve, hc, hf, Deferred.ofValue, invoke, callFunc, hfn, hname', hbody', hargs]
      intro ops Kc Q hw hK
      unfold Oper.wp
      rw [hrun, Oper.upon_enter]
      refine Calls.mono (hNN w (F.ok g (drops ids ++ st)) _ hav) ?_
      intro e w' he
      cases e with
      | returned v' =>
        obtain ⟨t, y, blk, cs, ty, hrr, hbl, hv', hge, hblk, hfk⟩ := he
        subst hrr
        have hfr1 : dom (drops ids ++ st) (kB d) = false := by rw [dom_app, dom_drops_B, hfr]; rfl
        obtain ⟨g', hg'⟩ := h1f.gotBox (hn d hd) hfr1 hbl hge hblk hfk
        show Kc (a.put o.dst v') w'
        rw [hd, hv']
        refine hK g' _ _ ?_
        show Rel F g' (([(kB d, some (.box t y .no)), (kT d, some (.tv (.box d [])))] ++ drops ids) ++ st) _ w'
        rw [List.append_assoc]
        exact hg'
      | panicked ch => exact he.elim
      | outgrown => exact he.elim
    · exact (run_fail hr).elim
  · exact (run_fail hr).elim
theorem op_goes (h : Rel F g st a w) {c : Call} {f : Operand} (ho : o.op = .call c) (hc : c.callee = .value f) (hn : ∀ d, o.dst = some d → F.slot d) {fn : Nat} {as : List AV} {post : Ret → Wr}
    (hr : (goEff T G o f c.args.toList c.argTypes.toList).run st = some (.call fn as post, l)) {r : Ret} (hS : ∀ sg, G fn = some sg → Told P sg fn as r) : OpOk P F o st (post r) a w := by
  unfold goEff at hr
  split at hr
  · split at hr
    · split at hr
      · exact op_goG h ho hc hn hr hS
      · split at hr
        · exact op_goS h ho hc hn hr hS
        · exact op_goV h ho hc hn hr hS
    · split at hr
      · exact op_goM h ho hc hn hr hS
      · split at hr
        · exact op_goB h ho hc hn hr hS
        · split at hr
          · exact op_goN h ho hc hn hr hS
          · exact op_go h ho hc hn hr (fun sg hs => (hS sg hs).said)
  · exact op_go h ho hc hn hr (fun sg hs => (hS sg hs).said)
end
end Go.Proofs.YtcmjbplnjjdcdaaGreat.Ref

namespace Go.Proofs.YtcmjbplnjjdcdaaGreat.Ref
open Go.RowKit Go.Proofs.YtcmjbplnjjdcdaaGreatW.PrintWords Go.Proofs.YtcmjbplnjjdcdaaGreatW.PrintLast

def Same (st st' : St) : Prop := (∀ k, get st k = get st' k) ∧ ∀ k, dom st k = dom st' k
theorem Same.refl (st : St) : Same st st := ⟨fun _ => rfl, fun _ => rfl⟩
theorem Same.symm {st st' : St} (h : Same st st') : Same st' st := ⟨fun k => (h.1 k).symm, fun k => (h.2 k).symm⟩
theorem Same.trans {st st' st'' : St} (h : Same st st') (h' : Same st' st'') : Same st st'' := ⟨fun k => (h.1 k).trans (h'.1 k), fun k => (h.2 k).trans (h'.2 k)⟩
theorem Same.app {st st' : St} (wr : Wr) (h : Same st st') : Same (wr ++ st) (wr ++ st') := by
  refine ⟨fun k => ?_, fun k => by rw [dom_app, dom_app, h.2]⟩
  cases e : dom wr k with
  | true => rw [get_app_in e, get_app_in e]
  | false => rw [get_app_out e, get_app_out e, h.1]
theorem Same.again {st : St} {k : Nat} {v : Val} (h : get st k = some v) : Same st ((k, some v) :: st) := by
  refine ⟨fun k' => ?_, fun k' => ?_⟩
  · by_cases e : k = k'
    · subst e; rw [get_cons_same, h]
    · rw [get_cons_ne _ _ e]
  · by_cases e : k = k'
    · subst e; rw [dom_cons_same, dom_of_get h]
    · rw [dom_cons_ne _ _ e]
theorem Rel.same {F : Fx} {g : Gh} {st st' : St} {a : Act} {w : World} (h : Rel F g st a w) (e : Same st st') : Rel F g st' a w := by
  have hd : dom st = dom st' := funext e.2
  have hA : Alive st = Alive st' := by
    funext k
    unfold Alive
    rw [e.1]
  have hM : Mut g st = Mut g st' := by
    funext k
    unfold Mut
    rw [hA]
  have hk : F.ok g st = F.ok g st' := by
    funext k
    unfold Fx.ok
    rw [hM]
  obtain ⟨h1, h1', h2, h3, h4, h5, h6, h7, h8, h9, h10, h11, h12, h13, h14, h15, h16⟩ := h
  refine ⟨h1, h1', h2, h3, h4, h5, h6, h7, ?_, ?_, ?_, ?_, ?_, ?_, ?_, ?_, ?_⟩
  · intro i v hv; rw [← e.1] at hv; rw [← hd, ← hk]; exact h8 i v hv
  · intro i v hv; rw [← e.1] at hv; rw [← hd, ← hk]; exact h9 i v hv
  · intro i v hv; rw [← e.1] at hv; exact h10 i v hv
  · intro r hr; rw [← e.2] at hr; exact h11 r hr
  · rw [← hA]; exact h12
  · rw [← hA]; exact h13
  · rw [← hA]; exact h14
  · rw [← hA]; exact h15
  · rw [← hA]; exact h16

section
variable {P : Program} {T : Tab} {G : Sigs} {O : Orac} {F : Fx} {g : Gh} {st st' : St} {a : Act} {w : World} {o : Oper} {ops : Array Oper} {r : Ret} {wr : Wr} {L : List Nat}
theorem splitKey_ok {k : Nat} {K : KSt} (h : splitKey k st K = some r) : ∃ st', Same st st' ∧ K st' = some r := by
  unfold splitKey at h
  split at h
  · rename_i x m hk
    cases x with
    | true => exact ⟨_, Same.again hk, h⟩
    | false => exact ⟨_, Same.again hk, h⟩
  · exact ⟨st, Same.refl st, h⟩
theorem splitO_ok {k : Option Nat} {K : KSt} (h : splitO k st K = some r) : ∃ st', Same st st' ∧ K st' = some r := by
  cases k with
  | none => exact ⟨st, Same.refl st, h⟩
  | some k => exact splitKey_ok h

def OracOk (P : Program) (G : Sigs) (O : Orac) : Prop := ∀ f as K r, O f as K = some r → ∃ q, (∀ sg, G f = some sg → Told P sg f as q) ∧ K q = some r
def dstLt (p n : Nat) (o : Oper) : Bool := match o.dst with
  | some d => Nat.ble p d && Nat.blt d n
  | none => true
theorem dstLt_lt {F : Fx} (h : dstLt F.np F.n o = true) : ∀ d, o.dst = some d → F.slot d := by
  intro d hd
  unfold dstLt at h
  rw [hd] at h
  have h := (Bool.and_eq_true _ _).mp h
  exact ⟨Nat.le_of_ble_eq_true h.1, Nat.le_of_ble_eq_true h.2⟩
/-- What an operation does to the state, its reads being l. -/
def Does (P : Program) (T : Tab) (G : Sigs) (o : Oper) (st : St) (wr : Wr) (l : List Nat) : Prop := match callOf o with
  | some (f, c) => ∃ fn as post q, (goEff T G o f c.args.toList c.argTypes.toList).run st = some (.call fn as post, l) ∧ (∀ sg, G fn = some sg → Told P sg fn as q) ∧ wr = post q
  | none => (opEff T G o).run st = some (.wr wr, l)
theorem callOf_spec {f : Operand} {c : Call} (h : callOf o = some (f, c)) : o.op = .call c ∧ c.callee = .value f := by
  unfold callOf at h
  split at h
  · rename_i c' hc
    split at h
    · rename_i f' hf
      injection h with h
      injection h with h1 h2
      subst h1
      subst h2
      exact ⟨hc, hf⟩
    · cases h
  · cases h
theorem op_do (hT : TabOk P T) (h : Rel F g st a w) (hn : dstLt F.np F.n o = true) {l : List Nat} (hd : Does P T G o st wr l) : OpOk P F o st wr a w := by
  unfold Does at hd
  split at hd
  · rename_i f c hc
    obtain ⟨fn, as, post, q, h1, h2, rfl⟩ := hd
    obtain ⟨e1, e2⟩ := callOf_spec hc
    exact op_goes h e1 e2 (dstLt_lt hn) h1 h2
  · exact op_all hT h (dstLt_lt hn) hd
theorem Does.local {l : List Nat} (hd : Does P T G o st wr l) (hs : ∀ k ∈ l, get st' k = get st k ∧ dom st' k = dom st k) : Does P T G o st' wr l := by
  unfold Does at hd ⊢
  split at hd
  · obtain ⟨fn, as, post, q, h1, h2, h3⟩ := hd
    exact ⟨fn, as, post, q, run_local h1 hs, h2, h3⟩
  · exact run_local hd hs
theorem opK_ok (hO : OracOk P G O) {K : Wr → List Nat → Option Ret} (h : opK T G O o st K = some r) : ∃ wr l L, Does P T G o st wr l ∧ (∀ k ∈ l, k ∈ L) ∧ K wr L = some r := by
  unfold opK at h
  split at h
  · rename_i f c hc
    obtain ⟨q, l, h1, L, h2, h3⟩ := runK_some h
    cases q with
    | wr w' => cases h3
    | call fn as post =>
      obtain ⟨p, hp, h4⟩ := hO fn as _ r h3
      refine ⟨post p, l, L, ?_, h2, h4⟩
      unfold Does
      rw [hc]
      exact ⟨fn, as, post, p, h1, hp, rfl⟩
  · rename_i hc
    obtain ⟨q, l, h1, L, h2, h3⟩ := runK_some h
    cases q with
    | wr w' =>
      refine ⟨w', l, L, ?_, h2, h3⟩
      unfold Does
      rw [hc]
      exact h1
    | call fn as post => cases h3
/-- One step: whether it is carried out, and what it writes. -/
def StepF (P : Program) (T : Tab) (G : Sigs) (ops : List Oper) (o : Oper) (st : St) (wr : Wr) (L : List Nat) : Prop :=
  (∀ k ∈ keyO (guardKey ops o), k ∈ L) ∧ ((wants ops o st = some true ∧ ∃ l, Does P T G o st wr l ∧ ∀ k ∈ l, k ∈ L) ∨ (wants ops o st = some false ∧ wr = passWr o))
theorem wants_local {ops : List Oper} (hs : ∀ k ∈ keyO (guardKey ops o), get st' k = get st k) : wants ops o st' = wants ops o st := by
  unfold wants
  split
  · rfl
  · split
    · rename_i k hk
      rw [hs k (by rw [hk]; exact List.mem_singleton.2 rfl)]
    · rfl
theorem StepF.local {ops : List Oper} (h : StepF P T G ops o st wr L) (hs : ∀ k ∈ L, get st' k = get st k ∧ dom st' k = dom st k) : StepF P T G ops o st' wr L := by
  obtain ⟨h1, h2⟩ := h
  refine ⟨h1, ?_⟩
  rw [wants_local (fun k hk => (hs k (h1 k hk)).1)]
  refine h2.imp (fun h => ⟨h.1, ?_⟩) id
  obtain ⟨l, h3, h4⟩ := h.2
  exact ⟨l, h3.local (fun k hk => hs k (h4 k hk)), h4⟩
theorem stepK_ok (hO : OracOk P G O) {ops : List Oper} {K : St → Wr → List Nat → Option Ret} (h : stepK T G O ops o st K = some r) : ∃ st' wr L, Same st st' ∧ StepF P T G ops o st' wr L ∧ K st' wr L = some r := by
  unfold stepK at h
  obtain ⟨st1, hs1, h⟩ := splitO_ok h
  obtain ⟨st2, hs2, h⟩ := splitO_ok h
  split at h
  · rename_i hw
    obtain ⟨wr, l, L, h1, h2, h3⟩ := opK_ok hO h
    exact ⟨st2, wr, _, hs1.trans hs2, ⟨fun k hk => List.mem_append.2 (.inl hk), .inl ⟨hw, l, h1, fun k hk => List.mem_append.2 (.inr (h2 k hk))⟩⟩, h3⟩
  · rename_i hw
    exact ⟨st2, _, _, hs1.trans hs2, ⟨fun k hk => hk, .inr ⟨hw, rfl⟩⟩, h⟩
  · cases h
theorem wanted_eq (h : Rel F g st a w) {b : Bool} (hw : wants ops.toList o st = some b) : Region.wanted o (yielded ops a.tmps) = b := by
  unfold wants at hw
  unfold Region.wanted
  split at hw
  · rename_i hg
    rw [hg]
    injection hw
  · rename_i j want hg
    rw [hg]
    simp only
    split at hw
    · rename_i k hk
      unfold guardKey at hk
      rw [hg] at hk
      simp only at hk
      split at hk
      · rename_i og hog
        split at hk
        · rename_i d hd
          injection hk with hk
          subst hk
          have hog' : ops[j]? = some og := by rw [← hog, Array.getElem?_toList]
          have hy : yielded ops a.tmps j = match a.tmps[d]? with
            | some (.bool b) => some b
            | _ => none := by
            unfold yielded
            simp [hog', hd]
            rfl
          split at hw
          · rename_i x m hx
            obtain ⟨tv, e, ht⟩ := h.tmps d _ hx
            injection e with e
            subst e
            have hv := TV_bool ht
            have : a.tmps[d]? = some (.bool x) := by
              rw [Array.getD_eq_getD_getElem?] at hv
              cases e : a.tmps[d]? with
              | none => rw [e] at hv; cases hv
              | some u => rw [e] at hv; exact congrArg some hv
            rw [hy, this]
            injection hw with hw
            rw [← hw]
            cases x <;> cases want <;> rfl
          · rename_i hx
            obtain ⟨tv, e, ht⟩ := h.tmps d _ hx
            injection e with e
            subst e
            simp only [TVR] at ht
            injection hw with hw
            rw [← hw, hy]
            rw [Array.getD_eq_getD_getElem?] at ht
            cases e : a.tmps[d]? with
            | none => rfl
            | some u => rw [e] at ht; have : u = undef := ht; rw [this]; rfl
          · cases hw
        · cases hk
      · cases hk
    · cases hw
theorem step_do (hT : TabOk P T) (h : Rel F g st a w) (hn : dstLt F.np F.n o = true) (hs : StepF P T G ops.toList o st wr L) {Kc : Act → World → Prop} {Q : Exit → Act → World → Prop} (hK : ∀ g' a' w', Rel F g' (wr ++ st) a' w' → Kc a' w') :
    if Region.wanted o (yielded ops a.tmps) = true then Oper.wp P o a w Kc Q else Kc (a.put o.dst undef) w := by
  obtain ⟨_, ⟨hw, l, hd, _⟩ | ⟨hw, rfl⟩⟩ := hs
  · have := wanted_eq h hw
    rw [if_pos this]
    exact op_do hT h hn hd ops Kc Q this hK
  · have := wanted_eq h hw
    rw [if_neg (by rw [this]; exact Bool.false_ne_true)]
    unfold passWr at hK
    cases hd : o.dst with
    | none =>
      rw [hd] at hK
      exact hK g a w h
    | some d =>
      rw [hd] at hK
      exact hK g _ _ (h.put (dstLt_lt hn d hd) rfl rfl rfl rfl (by simp only [TVR]))
theorem nilTest_spec {d S : Nat} {b : Bool} {x : Operand} (h : nilTest o = some (d, b, S, x)) : ∃ t', o.op = .binOp (if b then .eql else .neq) S x (.const (.slice none 0 0)) t' ∧ o.guard = none ∧ o.dst = some d := by
  unfold nilTest at h
  split at h
  · rename_i t' h1 h2 h3
    injection h with h
    injection h with e1 h
    injection h with e2 h
    injection h with e3 e4
    subst e1; subst e2; subst e3; subst e4
    exact ⟨_, h1, h2, h3⟩
  · rename_i t' h1 h2 h3
    injection h with h
    injection h with e1 h
    injection h with e2 h
    injection h with e3 e4
    subst e1; subst e2; subst e3; subst e4
    exact ⟨_, h1, h2, h3⟩
  · cases h
theorem nil_run {t e : TypeId} (hu : P.underlying t = some (.slice e)) (A : Option Addr) (n c : Nat) (X Y : Operand) (b : Bool) :
    (do eqGuard (if b then .eql else .neq) t X Y (.slice A n c) (.slice none 0 0); binOp (if b then .eql else .neq) t (.slice A n c) (.slice none 0 0) : Sem Value).run P w = .ok (.bool (if A.isNone then b else !b)) w := by
  cases b with
  | true =>
    have h1 := Lib.run_eql_slice_nil w t e A n c 0 0 hu
    simp only [if_true]
    cases A <;> simp [eqGuard, h1]
  | false =>
    have h1 := run_neq_slice_nil_any w t e A n c 0 0 hu
    simp only [Bool.false_eq_true, if_false]
    cases A <;> simp [eqGuard, h1]
theorem nilK_ok (hT : TabOk P T) (h : Rel F g st a w) (hn : dstLt F.np F.n o = true) {d S : Nat} {b : Bool} {x : Operand} (ho : nilTest o = some (d, b, S, x)) {K : Bool → Option Ret} (hk : nilK T b S x st K = some r) :
    ∃ u : Bool, K u = some r ∧ OpOk P F o st [(kT d, some (.tv (.v .bool u .no)))] a w := by
  obtain ⟨t', h1, h2, h3⟩ := nilTest_spec ho
  unfold nilK at hk
  obtain ⟨⟨t, y, m⟩, l1, q1, L1, _, hk⟩ := runK_some hk
  obtain ⟨z, l2, q2, L2, _, hk⟩ := runK_some hk
  obtain ⟨hty, cs, hev, hv⟩ := evd_TV h q1
  have hfk := full_FK h q2 hv
  have fin : ∀ {A : Option Addr} {n c : Nat} {e : TypeId}, P.underlying S = some (.slice e) → a.eval x = .slice A n c → OpOk P F o st [(kT d, some (.tv (.v .bool (if A.isNone then b else !b) .no)))] a w := by
    intro A n c e hu hx
    refine op_value h h3 (dstLt_lt hn d h3) ?_ (bool_TV _ _)
    unfold execOp
    simp only [h1]
    rw [Sem.run_bind, hx]
    have := nil_run (P := P) (w := w) hu A n c x (.const (.slice none 0 0)) b
    show Result.andThen ((do eqGuard (if b then .eql else .neq) S x (.const (.slice none 0 0)) (.slice A n c) (.slice none 0 0); binOp (if b then .eql else .neq) S (.slice A n c) (.slice none 0 0) : Sem Value).run P w) _ = _
    rw [this]
    rfl
  simp only at hk
  cases t with
  | slice e t =>
    have hu := (hT.ty _ _ hty).und.1
    cases hkn : nilKnown (.slice e t) m with
    | true =>
      rw [hkn] at hk
      have hm : m = .nil := by
        cases m <;> first | rfl | cases hkn
      subst hm
      simp only [VR] at hv
      subst hv
      refine ⟨b, hk, ?_⟩
      have := fin (A := none) (n := 0) (c := 0) hu hev
      exact this
    | false =>
      rw [hkn] at hk
      have hk : cond (List.isEmpty (α := t.den) z) (both (K b) (K (!b))) (K (!b)) = some r := hk
      obtain ⟨A, c, hcs, _, _, _, hr⟩ := Foot.now hfk
      have hx : a.eval x = .slice A (List.length (α := t.den) z) c := by rw [hev, hcs]; rfl
      have hf := fin hu hx
      cases hz : List.isEmpty (α := t.den) z with
      | true =>
        rw [hz] at hk
        obtain ⟨k1, k2⟩ := both_some (show both (K b) (K (!b)) = some r from hk)
        refine ⟨_, ?_, hf⟩
        cases A <;> simp [k1, k2]
      | false =>
        rw [hz] at hk
        have hne : 0 < List.length (α := t.den) z := by
          cases z with
          | nil => cases hz
          | cons q l => exact Nat.succ_pos _
        obtain ⟨ad, hA, _⟩ := hr hne
        refine ⟨_, ?_, hf⟩
        rw [hA]
        exact hk
  | _ =>
    have hk : (none : Option Ret) = some r := by
      cases m <;> exact hk
    cases hk
theorem fusing_spec {l : List Oper} {u : Fuse} (h : fusing T o l st = some u) : ∃ o2 o3 r, l = o2 :: o3 :: r ∧ fuse3 T o o2 o3 = some u := by
  unfold fusing at h
  split at h
  · rename_i u' hf
    split at h
    · injection h with h
      subst h
      unfold fuseOf at hf
      split at hf
      · exact ⟨_, _, _, rfl, hf⟩
      · cases hf
    · cases h
  · cases h
theorem fusingL_spec {l : List Oper} {u : FuseL} (h : fusingL T o l st = some u) : ∃ o2 r, l = o2 :: r ∧ fuseL2 T o o2 = some u := by
  unfold fusingL at h
  split at h
  · rename_i o2 r
    split at h
    · rename_i u' hf
      split at h
      · split at h
        · injection h with h
          subst h
          exact ⟨_, _, rfl, hf⟩
        · cases h
      · cases h
    · cases h
  · cases h
/-- A region in the order that is written. -/
theorem runOps_ok (hT : TabOk P T) (hO : OracOk P G O) {n : Nat} (hF : F.n = n) {K : KSt} {Q : Exit → Act → World → Prop} (hQ : ∀ g st a w, K st = some r → Rel F g st a w → Q .normal a w) :
    ∀ (l : List Oper) (g : Gh) (st : St) (a : Act) (w : World), l.all (dstLt F.np n) = true → runOps T G O ops.toList l 0 st K = some r → Rel F g st a w → wpList P ops Q l a w
  | [], g, st, a, w, _, h, hr => hQ g st a w h hr
  | o :: l, g, st, a, w, hn, h, hr => by
    rw [List.all_cons, Bool.and_eq_true] at hn
    subst hF
    unfold runOps at h
    split at h
    · rename_i d b S x hnt
      obtain ⟨u, hk, hop⟩ := nilK_ok hT hr hn.1 hnt h
      obtain ⟨_, _, hg, _⟩ := nilTest_spec hnt
      refine wpList_step (fun Kc hKc => ?_)
      have hw : Region.wanted o (yielded ops a.tmps) = true := by unfold Region.wanted; rw [hg]
      rw [if_pos hw]
      exact hop ops Kc Q hw (fun g' a' w' hr' => hKc a' w' (runOps_ok hT hO rfl hQ l g' _ a' w' hn.2 hk hr'))
    · split at h
      · rename_i u hfu
        obtain ⟨o2, o3, l', hl, hu⟩ := fusing_spec hfu
        subst hl
        obtain ⟨h1, h2⟩ := hn
        rw [List.all_cons, Bool.and_eq_true, List.all_cons, Bool.and_eq_true] at h2
        obtain ⟨h2, h3, h4⟩ := h2
        obtain ⟨c, _, _, p3, _, _, p6, _, _, _, p10, _⟩ := fuse3_spec hu
        obtain ⟨b, lb, hb, _, _, hb2⟩ := runK_some h
        obtain ⟨q, hq, hk⟩ := hO _ _ _ _ hb2
        exact bor_do hT hr hu (dstLt_lt h1 _ p3) (dstLt_lt h2 _ p6) (dstLt_lt h3 _ p10) hb hq hk (fun wr a' w' hk' hr' => by
          obtain ⟨g', hr'⟩ := hr'
          exact runOps_ok hT hO rfl hQ l' g' _ a' w' h4 hk' hr')
      · split at h
        · rename_i u hfu
          obtain ⟨o2, l', hl, hu⟩ := fusingL_spec hfu
          subst hl
          obtain ⟨h1, h2⟩ := hn
          rw [List.all_cons, Bool.and_eq_true] at h2
          obtain ⟨h2, h3⟩ := h2
          obtain ⟨c, _, _, p3, _, _, _, p7, _⟩ := fuseL2_spec hu
          obtain ⟨b, lb, hb, _, _, hb2⟩ := runK_some h
          obtain ⟨q, hq, hk⟩ := hO _ _ _ _ hb2
          exact lod_do hT hr hu (dstLt_lt h1 _ p3) (dstLt_lt h2 _ p7) hb hq (fun a' w' hr' => by
            obtain ⟨g', hr'⟩ := hr'
            exact runOps_ok hT hO rfl hQ l' g' _ a' w' h3 hk hr')
        · obtain ⟨st', wr, L, hs, hf, hk⟩ := stepK_ok hO h
          refine wpList_step (fun Kc hKc => ?_)
          exact step_do hT (hr.same hs) hn.1 hf (fun g' a' w' hr' => hKc a' w' (runOps_ok hT hO rfl hQ l g' _ a' w' hn.2 hk hr'))
  termination_by l => l.length
end
end Go.Proofs.YtcmjbplnjjdcdaaGreat.Ref

namespace Go.Proofs.YtcmjbplnjjdcdaaGreat.Ref
open Go.RowKit Go.Proofs.YtcmjbplnjjdcdaaGreatW.PrintWords Go.Proofs.YtcmjbplnjjdcdaaGreatW.PrintLast

/-- What operation i writes, what it reads. -/
abbrev Hist := List (Wr × List Nat)
def wrAt (H : Hist) (i : Nat) : Wr := match H[i]? with
  | some p => p.1
  | none => []
/-- The state behind those of the first n that b says. -/
def stB (st : St) (H : Hist) (b : Nat → Bool) : Nat → St
  | 0 => st
  | n + 1 => if b n then wrAt H n ++ stB st H b n else stB st H b n
theorem meets_not {x y : List Nat} (h : meets x y = false) : ∀ k ∈ x, k ∉ y := by
  intro k hk hy
  unfold meets at h
  have := List.any_eq_false.1 h k hk
  simp [hy] at this
theorem keysOf_dom {w : Wr} {k : Nat} (h : dom w k = true) : k ∈ keysOf w := by
  induction w with
  | nil => simp [dom] at h
  | cons p w ih =>
    obtain ⟨k', v⟩ := p
    by_cases e : k' = k
    · subst e; exact List.mem_cons_self ..
    · rw [dom_cons_ne _ _ e] at h
      exact List.mem_cons_of_mem _ (ih h)
theorem stB_same {st : St} {H : Hist} {b b' : Nat → Bool} {k : Nat} : ∀ n, (∀ i, i < n → dom (wrAt H i) k = true → b i = b' i) → get (stB st H b n) k = get (stB st H b' n) k ∧ dom (stB st H b n) k = dom (stB st H b' n) k
  | 0, _ => ⟨rfl, rfl⟩
  | n + 1, h => by
    have ih := stB_same (st := st) (H := H) (b := b) (b' := b') (k := k) n (fun i hi => h i (by omega))
    unfold stB
    cases hd : dom (wrAt H n) k with
    | true =>
      rw [h n (by omega) hd]
      cases b' n with
      | true =>
        simp only [if_true]
        rw [get_app_in hd, get_app_in hd, dom_app, dom_app, hd]
        exact ⟨rfl, rfl⟩
      | false => simpa using ih
    | false =>
      have e1 : get (if b n = true then wrAt H n ++ stB st H b n else stB st H b n) k = get (stB st H b n) k := by
        split
        · rw [get_app_out hd]
        · rfl
      have e2 : get (if b' n = true then wrAt H n ++ stB st H b' n else stB st H b' n) k = get (stB st H b' n) k := by
        split
        · rw [get_app_out hd]
        · rfl
      have e3 : dom (if b n = true then wrAt H n ++ stB st H b n else stB st H b n) k = dom (stB st H b n) k := by
        split
        · rw [dom_app, hd, Bool.false_or]
        · rfl
      have e4 : dom (if b' n = true then wrAt H n ++ stB st H b' n else stB st H b' n) k = dom (stB st H b' n) k := by
        split
        · rw [dom_app, hd, Bool.false_or]
        · rfl
      rw [e1, e2, e3, e4]
      exact ih
/-- The first m only. -/
def below (b : Nat → Bool) (m : Nat) (i : Nat) : Bool := b i && Nat.blt i m
theorem stB_below {st : St} {H : Hist} {b : Nat → Bool} {m : Nat} : ∀ n, m ≤ n → stB st H (below b m) n = stB st H b m
  | 0, h => by
    have : m = 0 := by omega
    subst this; rfl
  | n + 1, h => by
    by_cases e : m = n + 1
    · subst e
      have : ∀ k, k ≤ n + 1 → stB st H (below b (n + 1)) k = stB st H b k := by
        intro k
        induction k with
        | zero => intro _; rfl
        | succ k ih =>
          intro hk
          have hb : below b (n + 1) k = b k := by
            have : Nat.blt k (n + 1) = true := Nat.ble_eq_true_of_le (by omega)
            unfold below
            rw [this, Bool.and_true]
          unfold stB
          rw [hb, ih (by omega)]
      exact this _ (Nat.le_refl _)
    · have hb : below b m n = false := by
        have : Nat.blt n m = false := by
          cases e : Nat.blt n m with
          | false => rfl
          | true =>
            have := Nat.le_of_ble_eq_true e
            omega
        unfold below
        rw [this, Bool.and_false]
      have h1 : stB st H (below b m) (n + 1) = stB st H (below b m) n := by
        show (if below b m n = true then _ else _) = _
        rw [hb]
        rfl
      rw [h1]
      exact stB_below n (by omega)

section
variable {P : Program} {T : Tab} {G : Sigs} {O : Orac} {F : Fx} {g : Gh} {st st' : St} {a : Act} {w : World} {o : Oper} {ops : Array Oper} {r : Ret} {wr : Wr} {L : List Nat} {B : List Nat} {n : Nat}
/-- What a region's reckoning in the written order has shown: of each operation, what it writes and reads; who meets whom. -/
structure Drawn (P : Program) (T : Tab) (G : Sigs) (ops : List Oper) (B : List Nat) (st : St) (H : Hist) : Prop where
  step : ∀ i o p, ops[i]? = some o → H[i]? = some p → ∃ st', Same (stB st H (fun _ => true) i) st' ∧ StepF P T G ops o st' p.1 p.2
  apart : ∀ i j p q, i < j → H[i]? = some p → H[j]? = some q → (B.getD j 0).testBit i = false → (∀ k, dom p.1 k = true → k ∉ q.2) ∧ (∀ k, dom p.1 k = true → dom q.1 k = false) ∧ ∀ k, dom q.1 k = true → k ∉ p.2
theorem apartAll_ok {m : Nat} {rj wj : List Nat} : ∀ {E : List (Nat × List Nat × List Nat)}, apartAll m rj wj E = true → ∀ i ri wi, (i, ri, wi) ∈ E → m.testBit i = false → meets wi rj = false ∧ meets wi wj = false ∧ meets ri wj = false
  | [], _, _, _, _, he, _ => (List.not_mem_nil he).elim
  | (i', ri', wi') :: E, h, i, ri, wi, he, hb => by
    simp only [apartAll, Bool.and_eq_true, Bool.or_eq_true, Bool.not_eq_true', Bool.or_eq_false_iff] at h
    rcases List.mem_cons.1 he with e | he
    · injection e with e1 e2
      injection e2 with e2 e3
      subst e1
      subst e2
      subst e3
      rcases h.1 with h1 | h1
      · rw [hb] at h1; cases h1
      · exact ⟨h1.1.1, h1.1.2, h1.2⟩
    · exact apartAll_ok h.2 i ri wi he hb
theorem wrAt_app {H0 H1 : Hist} {i : Nat} (h : i < H0.length) : wrAt (H0 ++ H1) i = wrAt H0 i := by
  unfold wrAt
  rw [List.getElem?_append_left h]
theorem stB_app {H0 H1 : Hist} {b : Nat → Bool} : ∀ m, m ≤ H0.length → stB st (H0 ++ H1) b m = stB st H0 b m
  | 0, _ => rfl
  | m + 1, h => by
    unfold stB
    rw [wrAt_app (by omega), stB_app m (by omega)]
theorem runDraw_ok (hO : OracOk P G O) {ops : List Oper} {st0 : St} {K : KSt} : ∀ (l : List Oper) (H0 : Hist) (E : List (Nat × List Nat × List Nat)) (st : St), ops.drop H0.length = l → H0.length ≤ ops.length → Same (stB st0 H0 (fun _ => true) H0.length) st →
    Drawn P T G ops B st0 H0 → (∀ i p, H0[i]? = some p → (i, p.2, keysOf p.1) ∈ E) → runDraw T G O ops B H0.length l E st K = some r →
    ∃ H st', Drawn P T G ops B st0 H ∧ H.length = ops.length ∧ Same (stB st0 H (fun _ => true) H.length) st' ∧ K st' = some r
  | [], H0, E, st, hd, hle, hs, hD, hE, h => by
    have := List.drop_eq_nil_iff.1 hd
    exact ⟨H0, st, hD, by omega, hs, h⟩
  | o :: l, H0, E, st, hd, hle, hs, hD, hE, h => by
    unfold runDraw at h
    obtain ⟨st1, wr, L, hs1, hf, hk⟩ := stepK_ok hO h
    have hoj : ops[H0.length]? = some o := by
      have : (ops.drop H0.length)[0]? = some o := by rw [hd]; rfl
      rw [List.getElem?_drop, Nat.add_zero] at this
      exact this
    have hlt := (List.getElem?_eq_some_iff.1 hoj).1
    cases hap : apartAll (B.getD H0.length 0) L (keysOf wr) E with
    | false => rw [hap] at hk; cases hk
    | true =>
      rw [hap] at hk
      have hlen : (H0 ++ [(wr, L)]).length = H0.length + 1 := by simp
      have hlast : wrAt (H0 ++ [(wr, L)]) H0.length = wr := by
        unfold wrAt
        simp
      have hst : Same (stB st0 (H0 ++ [(wr, L)]) (fun _ => true) (H0 ++ [(wr, L)]).length) (wr ++ st1) := by
        rw [hlen]
        unfold stB
        rw [hlast, stB_app _ (Nat.le_refl _)]
        exact (hs.trans hs1).app wr
      have hget : ∀ {i p}, (H0 ++ [(wr, L)])[i]? = some p → (i < H0.length ∧ H0[i]? = some p) ∨ (i = H0.length ∧ p = (wr, L)) := by
        intro i p hp
        by_cases hi : i < H0.length
        · rw [List.getElem?_append_left hi] at hp
          exact .inl ⟨hi, hp⟩
        · have hi2 := (List.getElem?_eq_some_iff.1 hp).1
          rw [hlen] at hi2
          have e : i = H0.length := by omega
          subst e
          refine .inr ⟨rfl, ?_⟩
          simp at hp
          exact hp.symm
      have := runDraw_ok hO (ops := ops) (st0 := st0) (K := K) l (H0 ++ [(wr, L)]) ((H0.length, L, keysOf wr) :: E) (wr ++ st1) ?_ (by rw [hlen]; omega) hst ?_ ?_ (by rw [hlen]; exact hk)
      · exact this
      · rw [hlen, ← List.drop_drop, hd]; rfl
      · refine ⟨?_, ?_⟩
        · intro i o' p ho' hp
          rcases hget hp with ⟨hi, hp'⟩ | ⟨hi, hp'⟩
          · rw [stB_app i (by omega)]
            exact hD.step i o' p ho' hp'
          · subst hi
            subst hp'
            rw [hoj] at ho'
            injection ho' with ho'
            subst ho'
            rw [stB_app _ (Nat.le_refl _)]
            exact ⟨st1, hs.trans hs1, hf⟩
        · intro i j p q hij hp hq hb
          rcases hget hq with ⟨hj, hq'⟩ | ⟨hj, hq'⟩
          · rcases hget hp with ⟨hi, hp'⟩ | ⟨hi, hp'⟩
            · exact hD.apart i j p q hij hp' hq' hb
            · omega
          · subst hj
            subst hq'
            rcases hget hp with ⟨hi, hp'⟩ | ⟨hi, hp'⟩
            · obtain ⟨m1, m2, m3⟩ := apartAll_ok hap i _ _ (hE i p hp') hb
              refine ⟨fun k hk hL => meets_not m1 k (keysOf_dom hk) hL, fun k hk => ?_, fun k hk hL => meets_not m3 k hL (keysOf_dom hk)⟩
              cases e : dom wr k with
              | false => rfl
              | true => exact (meets_not m2 k (keysOf_dom hk) (keysOf_dom e)).elim
            · omega
      · intro i p hp
        rcases hget hp with ⟨hi, hp'⟩ | ⟨hi, hp'⟩
        · exact List.mem_cons_of_mem _ (hE i p hp')
        · subst hi
          subst hp'
          exact List.mem_cons_self ..
/-- What an operation reads is the same, whoever else has come up. -/
theorem Drawn.reads {ops : List Oper} {H : Hist} (hD : Drawn P T G ops B st H) {b : Nat → Bool} {i : Nat} {p : Wr × List Nat} (hp : H[i]? = some p) (hlt : i < n) (hn : n = H.length) (hbi : b i = false)
    (h1 : ∀ j, j < n → (B.getD i 0).testBit j = true → b j = true) (h2 : ∀ j, j < n → (B.getD j 0).testBit i = true → b j = false) :
    ∀ k ∈ p.2, get (stB st H b n) k = get (stB st H (fun _ => true) i) k ∧ dom (stB st H b n) k = dom (stB st H (fun _ => true) i) k := by
  intro k hk
  rw [← stB_below (b := fun _ => true) (m := i) n (by omega)]
  refine stB_same n (fun j hj hd => ?_)
  have hq : ∃ q, H[j]? = some q := ⟨_, List.getElem?_eq_getElem (by omega)⟩
  obtain ⟨q, hq⟩ := hq
  have hw : wrAt H j = q.1 := by unfold wrAt; rw [hq]
  rw [hw] at hd
  rcases Nat.lt_trichotomy j i with hji | hji | hji
  · have hb : below (fun _ => true) i j = true := by
      unfold below
      rw [Bool.true_and]
      exact Nat.ble_eq_true_of_le (by omega)
    rw [hb]
    cases e : b j with
    | true => rfl
    | false =>
      cases ht : (B.getD i 0).testBit j with
      | true => rw [h1 j hj ht] at e; cases e
      | false => exact ((hD.apart j i q p hji hq hp ht).1 k hd hk).elim
  · subst hji
    have hb : below (fun _ => true) j j = false := by
      unfold below
      cases e : Nat.blt j j with
      | false => rfl
      | true => have := Nat.le_of_ble_eq_true e; omega
    rw [hbi, hb]
  · have hb : below (fun _ => true) i j = false := by
      unfold below
      cases e : Nat.blt j i with
      | false => rfl
      | true => have := Nat.le_of_ble_eq_true e; omega
    rw [hb]
    cases e : b j with
    | false => rfl
    | true =>
      cases ht : (B.getD j 0).testBit i with
      | true => rw [h2 j hj ht] at e; cases e
      | false => exact ((hD.apart i j p q hji hp hq ht).2.2 k hd hk).elim
/-- It comes up now, or had come up in its turn: the same. -/
theorem Drawn.takes {ops : List Oper} {H : Hist} (hD : Drawn P T G ops B st H) {b : Nat → Bool} {i : Nat} {p : Wr × List Nat} (hp : H[i]? = some p) (hlt : i < n) (hn : n = H.length) (hbi : b i = false)
    (h2 : ∀ j, j < n → (B.getD j 0).testBit i = true → b j = false) : Same (p.1 ++ stB st H b n) (stB st H (up b i) n) := by
  have hw : wrAt H i = p.1 := by unfold wrAt; rw [hp]
  have key : ∀ m, m ≤ n → (m ≤ i → stB st H (up b i) m = stB st H b m) ∧ (i < m → Same (p.1 ++ stB st H b m) (stB st H (up b i) m)) := by
    intro m
    induction m with
    | zero => intro _; exact ⟨fun _ => rfl, fun h => by omega⟩
    | succ m ih =>
      intro hm
      obtain ⟨ih1, ih2⟩ := ih (by omega)
      refine ⟨fun hmi => ?_, fun him => ?_⟩
      · unfold stB
        rw [up_ne (by omega), ih1 (by omega)]
      · by_cases e : m = i
        · subst e
          unfold stB
          rw [up_self, hbi, ih1 (Nat.le_refl _), hw]
          exact Same.refl _
        · have hs := ih2 (by omega)
          have hq : ∃ q, H[m]? = some q := ⟨_, List.getElem?_eq_getElem (by omega)⟩
          obtain ⟨q, hq⟩ := hq
          have hwm : wrAt H m = q.1 := by unfold wrAt; rw [hq]
          unfold stB
          rw [up_ne e, hwm]
          cases hb : b m with
          | false => exact hs
          | true =>
            simp only [if_true]
            have ht : (B.getD m 0).testBit i = false := by
              cases ht : (B.getD m 0).testBit i with
              | false => rfl
              | true => rw [h2 m (by omega) ht] at hb; cases hb
            have hap := (hD.apart i m p q (by omega) hp hq ht).2.1
            refine Same.trans ?_ (hs.app q.1)
            refine ⟨fun k => ?_, fun k => by rw [dom_app, dom_app, dom_app, dom_app, ← Bool.or_assoc, ← Bool.or_assoc, Bool.or_comm (dom p.1 k)]⟩
            cases hd : dom p.1 k with
            | true =>
              rw [get_app_in hd, get_app_out (hap k hd), get_app_in hd]
            | false =>
              rw [get_app_out hd]
              cases hd' : dom q.1 k with
              | true => rw [get_app_in hd', get_app_in hd']
              | false => rw [get_app_out hd', get_app_out hd', get_app_out hd]
  exact (key n (Nat.le_refl _)).2 hlt
/-- The region. -/
theorem draw_ok (hT : TabOk P T) (hm : P.follows .mixedOrders = true) {id : Nat} {H : Hist} (hD : Drawn P T G ops.toList B st H) (hlen : H.length = ops.size) (hB : drawOk ops B = true) (hn : ops.toList.all (dstLt F.np F.n) = true) (hr : Rel F g st a w)
    {Q : Exit → Act → World → Prop} (hQ : ∀ g' a' w', Rel F g' (stB st H (fun _ => true) H.length) a' w' → Q .normal a' w') : (Code.region id ops true).wp P Q a w := by
  simp only [drawOk, Bool.and_eq_true] at hB
  have hTl : (rtab .any ops).2.length = ops.size := by simp [rtab]
  refine start_ (S := fun _ => True) (ds := []) (Array.replicate ops.size false) hm rfl rfl trivial (fun _ => ?_)
  refine inv_ (B := B) (T := rtab .any ops) (List.range ops.size) (fun b a w => ∃ g, Rel F g (stB st H b ops.size) a w) rfl hB.1 hB.2 ?_ ?_ ?_ ?_
  · rw [Bool.and_eq_true, beq_iff_eq, beq_iff_eq, hTl]
    refine ⟨?_, by simp⟩
    apply List.ext_getElem?
    intro j
    by_cases hj : j < ops.size
    · simp [lof, hj]
    · rw [List.getElem?_eq_none (by simp [lof]; omega), List.getElem?_eq_none (by simp; omega)]
  · have : ∀ m, stB st H (fun _ => false) m = st := by
      intro m
      induction m with
      | zero => rfl
      | succ m ih => unfold stB; simpa using ih
    exact ⟨g, by rw [this]; exact hr.drew⟩
  · intro i hi
    have hi := List.mem_range.1 hi
    intro b a w ⟨g, hg⟩ hbi hw1 hw2
    have hoi : ops[i]? = some ops[i] := Array.getElem?_eq_getElem hi
    have hol : ops.toList[i]? = some ops[i] := by rw [Array.getElem?_toList, hoi]
    have hp : ∃ p, H[i]? = some p := ⟨_, List.getElem?_eq_getElem (by omega)⟩
    obtain ⟨p, hp⟩ := hp
    obtain ⟨st', hs, hf⟩ := hD.step i _ p hol hp
    have h1 : ∀ j, j < ops.size → (B.getD i 0).testBit j = true → b j = true := fun j hj ht => hw1 j (by rw [ht, Bool.and_true]; simpa using hj)
    have h2 : ∀ j, j < ops.size → (B.getD j 0).testBit i = true → b j = false := fun j hj ht => hw2 j (by rw [ht, Bool.and_true]; simpa using hj)
    refine ⟨ops[i], hoi, fun K hK => ?_⟩
    have hrd := hD.reads hp hi hlen.symm hbi h1 h2
    have hf' : StepF P T G ops.toList ops[i] (stB st H b ops.size) p.1 p.2 := hf.local (fun k hk => ⟨(hrd k hk).1.trans (hs.1 k), (hrd k hk).2.trans (hs.2 k)⟩)
    have hno : dstLt F.np F.n ops[i] = true := List.all_eq_true.1 hn _ (List.mem_of_getElem? hol)
    refine step_do hT hg hno hf' (fun g' a' w' hg' => hK a' w' ⟨g', ?_⟩)
    exact hg'.same (hD.takes hp hi hlen.symm hbi h2)
  · intro b a w hb ⟨g, hg⟩
    refine hQ g a w ?_
    have : ∀ m, m ≤ ops.size → stB st H b m = stB st H (fun _ => true) m := by
      intro m
      induction m with
      | zero => intro _; rfl
      | succ m ih =>
        intro hm
        unfold stB
        rw [hb m (by simp; omega), ih (by omega)]
    rw [hlen, ← this _ (Nat.le_refl _)]
    exact hg
end
end Go.Proofs.YtcmjbplnjjdcdaaGreat.Ref
