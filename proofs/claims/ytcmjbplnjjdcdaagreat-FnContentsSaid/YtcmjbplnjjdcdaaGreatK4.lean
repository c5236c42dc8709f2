/- The proof system: an abstract machine over data, and that what it computes the code computes.
   Conditions: as each theorem states. -/
import Derived.Test.YtcmjbplnjjdcdaaGreatK2
import Derived.Deep.LoopGhost
import Derived.Laws.Sem
import Derived.ChangeArms
import Derived.ChangeOld
import Derived.ChangeStays
import Derived.ReadAgain
import Derived.Below
import Derived.ChangeShapes
import Derived.WalkKit
import Derived.ProofKit
import Derived.OpenShut
import Derived.SizedLaws
set_option linter.unusedVariables false
set_option linter.unusedSimpArgs false
namespace Go.Proofs.YtcmjbplnjjdcdaaGreat.Ref
open Go.RowKit Go.Proofs.YtcmjbplnjjdcdaaGreatW.PrintWords Go.Proofs.YtcmjbplnjjdcdaaGreatW.PrintLast

def RenOk (st : St) (R : Ren) : Prop := ∀ q o v, (q, o, v) ∈ R → match o with
  | some r => get st (kR r) = some v
  | none => ∃ e t, v = .row e t []
def Fits (g g' : Gh) (R : Ren) : Prop := ∀ q o v, (q, o, v) ∈ R → match o with
  | some r => g'.ρ q = g.ρ r ∧ g'.σ q = g.σ r ∧ g'.S q = g.S r
  | none => g'.ρ q = .slice none 0 0 ∧ (∀ e t, v = .row e t [] → g'.σ q = t) ∧ g'.S q = fun _ => False
def Has (D : Nat → Bool) (R : Ren) : Prop := ∀ q o v, (q, o, v) ∈ R → D (kR q) = true
theorem RenOk.app {st : St} {R R' : Ren} (h : RenOk st R) (h' : RenOk st R') : RenOk st (R ++ R') := fun q o v hm => (List.mem_append.1 hm).elim (h q o v) (h' q o v)
theorem RenOk.nil {st : St} : RenOk st [] := fun _ _ _ h => (List.not_mem_nil h).elim
theorem Fits.left {g g' : Gh} {R R' : Ren} (h : Fits g g' (R ++ R')) : Fits g g' R := fun q o v hm => h q o v (List.mem_append.2 (.inl hm))
theorem Fits.right {g g' : Gh} {R R' : Ren} (h : Fits g g' (R ++ R')) : Fits g g' R' := fun q o v hm => h q o v (List.mem_append.2 (.inr hm))
theorem Has.left {D : Nat → Bool} {R R' : Ren} (h : Has D (R ++ R')) : Has D R := fun q o v hm => h q o v (List.mem_append.2 (.inl hm))
theorem Has.right {D : Nat → Bool} {R R' : Ren} (h : Has D (R ++ R')) : Has D R' := fun q o v hm => h q o v (List.mem_append.2 (.inr hm))

section
variable {F : Fx} {g g' : Gh} {st : St} {a : Act} {w : World} {D D' : Nat → Bool} {ok ok' : Nat → Prop}
theorem moveP_ok : ∀ {t : Ty} {x : t.den} {m m' : Mk} {d j j' : Nat} {R : Ren} {l : List Nat} {cs : List Value}, (moveP t x m d j).run st = some ((m', R, j'), l) →
    RenOk st R ∧ (Fits g g' R → Has D' R → VR g D w ok t x m cs → VR g' D' w ok t x m' cs)
  | .slice e t, x, .own r, m', d, j, j', R, l, cs, h => by
    obtain ⟨v, l1, h1, h2, _⟩ := run_rd h
    split at h2
    · rename_i e' t' xs
      have := run_ret h2
      injection this with e1 e2
      injection e2 with e2 e3
      subst e1
      subst e2
      refine ⟨?_, ?_⟩
      · intro q o v hm
        have := List.mem_singleton.1 hm
        injection this with a1 a2
        injection a2 with a2 a3
        subst a2
        subst a3
        exact h1
      · intro hf hh hv
        simp only [VR] at hv ⊢
        have := (hf (rid d j) (some r) _ (List.mem_singleton.2 rfl)).1
        exact ⟨by rw [this]; exact hv.1, hh _ _ _ (List.mem_singleton.2 rfl)⟩
    · exact (run_fail h2).elim
  | .slice e t, x, .nil, m', d, j, j', R, l, cs, h => by
    have := run_ret h
    injection this with e1 e2
    injection e2 with e2 e3
    subst e1
    subst e2
    refine ⟨?_, ?_⟩
    · intro q o v hm
      have := List.mem_singleton.1 hm
      injection this with a1 a2
      injection a2 with a2 a3
      subst a2
      subst a3
      exact ⟨e, t, rfl⟩
    · intro hf hh hv
      simp only [VR] at hv ⊢
      have := (hf (rid d j) none _ (List.mem_singleton.2 rfl)).1
      exact ⟨by rw [this]; exact hv, hh _ _ _ (List.mem_singleton.2 rfl)⟩
  | .pair p q, x, .pair m n, m', d, j, j', R, l, cs, h => by
    obtain ⟨⟨m1, R1, j1⟩, l1, l2, h1, h2, _⟩ := run_bind h
    obtain ⟨⟨m2, R2, j2⟩, l3, l4, h3, h4, _⟩ := run_bind h2
    have := run_ret h4
    injection this with e1 e2
    injection e2 with e2 e3
    subst e1
    subst e2
    refine ⟨(moveP_ok (cs := []) h1).1.app (moveP_ok (cs := []) h3).1, fun hf hh hv => ?_⟩
    simp only [VR] at hv ⊢
    obtain ⟨c0, c1, e, hv0, hv1⟩ := hv
    exact ⟨c0, c1, e, (moveP_ok h1).2 hf.left hh.left hv0, (moveP_ok h3).2 hf.right hh.right hv1⟩
  | .slice _ _, x, .no, m', d, j, j', R, l, cs, h => by cases run_ret h; exact ⟨RenOk.nil, fun _ _ hv => by simp only [VR] at hv ⊢; exact hv⟩
  | .slice _ _, x, .pair _ _, m', d, j, j', R, l, cs, h => by cases run_ret h; exact ⟨RenOk.nil, fun _ _ hv => by simp only [VR] at hv ⊢; exact hv⟩
  | .pair _ _, x, .no, m', d, j, j', R, l, cs, h => by cases run_ret h; exact ⟨RenOk.nil, fun _ _ hv => by simp only [VR] at hv ⊢; exact hv⟩
  | .pair _ _, x, .nil, m', d, j, j', R, l, cs, h => by cases run_ret h; exact ⟨RenOk.nil, fun _ _ hv => by simp only [VR] at hv ⊢; exact hv⟩
  | .pair _ _, x, .own _, m', d, j, j', R, l, cs, h => by cases run_ret h; exact ⟨RenOk.nil, fun _ _ hv => by simp only [VR] at hv ⊢; exact hv⟩
  | .int _, x, m, m', d, j, j', R, l, cs, h => by cases run_ret h; exact ⟨RenOk.nil, fun _ _ hv => by simp only [VR] at hv ⊢; exact hv⟩
  | .bool, x, m, m', d, j, j', R, l, cs, h => by cases run_ret h; exact ⟨RenOk.nil, fun _ _ hv => by simp only [VR] at hv ⊢; exact hv⟩
  | .str, x, m, m', d, j, j', R, l, cs, h => by cases run_ret h; exact ⟨RenOk.nil, fun _ _ hv => by simp only [VR] at hv ⊢; exact hv⟩
/-- What stands fast between the old words and the new. -/
structure Keeps (F : Fx) (g g' : Gh) (st : St) (D' : Nat → Bool) (w : World) (ok' : Nat → Prop) (fz : List Nat) : Prop where
  β : g'.β = g.β
  τ : g'.τ = g.τ
  ok : ∀ k, F.ok g st k → k < w.heap.size → ok' k
  fz : ∀ r ∈ fz, ∀ k, g.S r k → k < w.heap.size → ok' k
theorem full_keeps (h : Rel F g st a w) {t : Ty} {x y : t.den} {m : Mk} {l fz : List Nat} {cs : List Value} (hf : (full t x m).run st = some (y, l)) (hk : Keeps F g g' st D' w ok' fz) (hi : ∀ r ∈ idsT t m, r ∈ fz) (hv : VR g (dom st) w (F.ok g st) t x m cs) : VR g' D' w ok' t y .no cs := by
  refine VR_no.2 (Foot.mv (full_FK h hf hv) (fun _ _ _ => rfl) ?_)
  rintro k (h1 | ⟨r, hr, h1⟩) hlt
  · exact hk.ok k h1 hlt
  · exact hk.fz r (hi r hr) k h1 hlt
theorem refBox_TV {fz : List Nat} (hk : Keeps F g g' st D' w ok' fz) {t : TV} {v : Value} (ht : refBox t = true) (hb : ∀ b ∈ boxIn t, D' (kB b) = true) (hv : TVR g (dom st) w (F.ok g st) t v) : TVR g' D' w ok' t v := by
  cases t with
  | ref t x =>
    simp only [TVR] at hv ⊢
    obtain ⟨b, cs, e, hv⟩ := hv
    exact ⟨b, cs, e, Foot.mv hv (fun _ _ _ => rfl) hk.ok⟩
  | box b p =>
    simp only [TVR] at hv ⊢
    exact ⟨by rw [hk.β, hk.τ]; exact hv.1, hb b (by simp [boxIn])⟩
  | _ => cases ht
theorem refBox_TVs {fz : List Nat} (hk : Keeps F g g' st D' w ok' fz) : ∀ {ts : List TV} {vs : List Value}, ts.all refBox = true → (∀ b ∈ ts.flatMap boxIn, D' (kB b) = true) → TVRs g (dom st) w (F.ok g st) ts vs → TVRs g' D' w ok' ts vs
  | [], vs, _, _, h => by simp only [TVRs] at h ⊢; exact h
  | t :: ts, vs, ha, hb, h => by
    rw [List.all_cons, Bool.and_eq_true] at ha
    simp only [TVRs] at h ⊢
    obtain ⟨v, vs', e, h1, h2⟩ := h
    refine ⟨v, vs', e, refBox_TV hk ha.1 (fun b hb' => hb b ?_) h1, refBox_TVs hk ha.2 (fun b hb' => hb b ?_) h2⟩
    · rw [List.flatMap_cons]; exact List.mem_append.2 (.inl hb')
    · rw [List.flatMap_cons]; exact List.mem_append.2 (.inr hb')
theorem VR_blank {g : Gh} {D : Nat → Bool} {w : World} {ok : Nat → Prop} : ∀ (t : Ty) (x : t.den) (m : Mk) (cs : List Value), VR g D w ok t x m cs → VR g D w ok t (blankD t x m) m cs
  | .slice _ _, _, .own _, _, h => h
  | .slice _ _, _, .nil, _, h => h
  | .slice _ _, _, .no, _, h => h
  | .slice _ _, _, .pair _ _, _, h => h
  | .pair a b, x, .pair m n, cs, h => by
    obtain ⟨c0, c1, e, h1, h2⟩ := h
    exact ⟨c0, c1, e, VR_blank a x.1 m c0 h1, VR_blank b x.2 n c1 h2⟩
  | .pair _ _, _, .own _, _, h => h
  | .pair _ _, _, .nil, _, h => h
  | .pair _ _, _, .no, _, h => h
  | .int _, _, _, _, h => h
  | .bool, _, _, _, h => h
  | .str, _, _, _, h => h
theorem keepTV_ok (h : Rel F g st a w) {d : Nat} {own : Bool} {tv tv' : TV} {R : Ren} {fz l : List Nat} (hr : (keepTV d own tv).run st = some ((tv', R, fz), l)) :
    RenOk st R ∧ ∀ (fz' : List Nat) (v : Value), (∀ r ∈ fz, r ∈ fz') → Keeps F g g' st D' w ok' fz' → Fits g g' R → Has D' R → (∀ b ∈ boxesIn tv, D' (kB b) = true) → TVR g (dom st) w (F.ok g st) tv v → TVR g' D' w ok' tv' v := by
  unfold keepTV at hr
  split at hr
  · rename_i t x m
    split at hr
    · obtain ⟨⟨m', R', j'⟩, l1, l2, h1, h2, _⟩ := run_bind hr
      cases run_ret h2
      refine ⟨(moveP_ok (g := g) (g' := g') (D := dom st) (D' := D') (w := w) (ok := fun _ => True) (cs := []) h1).1, fun fz' v hz hk hf hh hb hv => ?_⟩
      simp only [TVR] at hv ⊢
      obtain ⟨cs, e, hv⟩ := hv
      exact ⟨cs, e, VR_blank _ _ _ _ ((moveP_ok h1).2 hf hh (VR_ok hk.ok hv))⟩
    · obtain ⟨y, l1, l2, h1, h2, _⟩ := run_bind hr
      cases run_ret h2
      refine ⟨RenOk.nil, fun fz' v hz hk hf hh hb hv => ?_⟩
      simp only [TVR] at hv ⊢
      obtain ⟨cs, e, hv⟩ := hv
      exact ⟨cs, e, full_keeps h h1 hk hz hv⟩
  · rename_i b p
    cases run_ret hr
    exact ⟨RenOk.nil, fun fz' v hz hk hf hh hb hv => refBox_TV hk rfl hb hv⟩
  · cases run_ret hr
    exact ⟨RenOk.nil, fun fz' v hz hk hf hh hb hv => refBox_TV hk rfl hb hv⟩
  · rename_i f caps
    obtain ⟨hc, h2⟩ := run_chk hr
    cases run_ret h2
    refine ⟨RenOk.nil, fun fz' v hz hk hf hh hb hv => ?_⟩
    simp only [TVR] at hv ⊢
    obtain ⟨vs, e, hv⟩ := hv
    exact ⟨vs, e, refBox_TVs hk hc hb hv⟩
  · exact (run_fail hr).elim
theorem keepSlots_ok (h : Rel F g st a w) {bs : List (Nat × Bool)} : ∀ {ss : List (Nat × Bool)} {S : St} {R : Ren} {fz l : List Nat}, (keepSlots bs ss).run st = some ((S, R, fz), l) →
    RenOk st R ∧ ∀ (fz' : List Nat), (∀ r ∈ fz, r ∈ fz') → Keeps F g g' st D' w ok' fz' → Fits g g' R → Has D' R → (∀ b, hasBox bs b = true → D' (kB b) = true) → ∀ k v, (k, v) ∈ S → ∃ i tv, k = kT i ∧ v = some (.tv tv) ∧ TVR g' D' w ok' tv (a.tmps.getD i undef)
  | [], S, R, fz, l, hr => by
    cases run_ret hr
    exact ⟨RenOk.nil, fun _ _ _ _ _ _ k v hm => (List.not_mem_nil hm).elim⟩
  | (s, own) :: ss, S, R, fz, l, hr => by
    obtain ⟨v, l1, h1, h2, _⟩ := run_rd hr
    split at h2
    · rename_i tv
      obtain ⟨hb, h3⟩ := run_chk h2
      obtain ⟨⟨tv', R1, fz1⟩, l3, l4, h4, h5, _⟩ := run_bind h3
      obtain ⟨⟨S2, R2, fz2⟩, l5, l6, h6, h7, _⟩ := run_bind h5
      cases run_ret h7
      refine ⟨(keepTV_ok (g' := g') (D' := D') (ok' := ok') h h4).1.app (keepSlots_ok h h6).1, fun fz' hz hk hf hh hB k v hm => ?_⟩
      rcases List.mem_cons.1 hm with e | hm
      · injection e with e1 e2
        subst e1
        subst e2
        obtain ⟨tv0, e, ht⟩ := h.tmps s _ h1
        injection e with e
        subst e
        refine ⟨s, tv', rfl, rfl, (keepTV_ok h h4).2 fz' _ (fun r hr => hz r (List.mem_append.2 (.inl hr))) hk hf.left hh.left (fun b hb' => hB b ?_) ht⟩
        exact List.all_eq_true.1 hb b hb'
      · exact (keepSlots_ok h h6).2 fz' (fun r hr => hz r (List.mem_append.2 (.inr hr))) hk hf.right hh.right hB k v hm
    · exact (run_fail h2).elim
theorem keepBox_ok (h : Rel F g st a w) {b : Nat} {own : Bool} {t : Ty} {x : t.den} {m : Mk} {v : Val} {R : Ren} {fz l : List Nat} (hb : BoxR g (dom st) w (F.ok g st) b t x m) (hr : (keepBox b own t x m).run st = some ((v, R, fz), l)) :
    RenOk st R ∧ ∀ (fz' : List Nat), (∀ r ∈ fz, r ∈ fz') → Keeps F g g' st D' w ok' fz' → Fits g g' R → Has D' R → ∃ t x m, v = .box t x m ∧ BoxR g' D' w ok' b t x m := by
  obtain ⟨ht, cs, ty, hh, hv⟩ := hb
  unfold keepBox at hr
  split at hr
  · obtain ⟨⟨m', R', j'⟩, l1, l2, h1, h2, _⟩ := run_bind hr
    cases run_ret h2
    refine ⟨(moveP_ok (g := g) (g' := g') (D := dom st) (D' := D') (w := w) (ok := fun _ => True) (cs := []) h1).1, fun fz' hz hk hf hh' => ⟨t, blankD t x m', m', rfl, by rw [hk.τ]; exact ht, cs, ty, by rw [hk.β]; exact hh, VR_blank _ _ _ _ ((moveP_ok h1).2 hf hh' (VR_ok hk.ok hv))⟩⟩
  · obtain ⟨y, l1, l2, h1, h2, _⟩ := run_bind hr
    cases run_ret h2
    exact ⟨RenOk.nil, fun fz' hz hk hf hh' => ⟨t, y, .no, rfl, by rw [hk.τ]; exact ht, cs, ty, by rw [hk.β]; exact hh, full_keeps h h1 hk hz hv⟩⟩
theorem keepBoxes_ok (h : Rel F g st a w) : ∀ {bs : List (Nat × Bool)} {S : St} {R : Ren} {fz l : List Nat}, (keepBoxes bs).run st = some ((S, R, fz), l) →
    RenOk st R ∧ (∀ b, hasBox bs b = true → ∃ v, (kB b, v) ∈ S) ∧ (∀ k v, (k, v) ∈ S → ∃ b, k = kB b ∧ Alive st (kB b)) ∧ ∀ (fz' : List Nat), (∀ r ∈ fz, r ∈ fz') → Keeps F g g' st D' w ok' fz' → Fits g g' R → Has D' R → ∀ k v, (k, v) ∈ S → ∃ b t x m, k = kB b ∧ v = some (.box t x m) ∧ BoxR g' D' w ok' b t x m
  | [], S, R, fz, l, hr => by
    cases run_ret hr
    exact ⟨RenOk.nil, fun b hb => by simp [hasBox] at hb, fun k v hm => (List.not_mem_nil hm).elim, fun _ _ _ _ _ k v hm => (List.not_mem_nil hm).elim⟩
  | (b, own) :: bs, S, R, fz, l, hr => by
    obtain ⟨v, l1, h1, h2, _⟩ := run_rd hr
    split at h2
    · rename_i t x m
      obtain ⟨⟨v', R1, fz1⟩, l3, l4, h4, h5, _⟩ := run_bind h2
      obtain ⟨⟨S2, R2, fz2⟩, l5, l6, h6, h7, _⟩ := run_bind h5
      cases run_ret h7
      obtain ⟨t0, x0, m0, e, hb⟩ := h.boxes b _ h1
      injection e with e1 e2 e3
      subst e1
      cases e2
      cases e3
      obtain ⟨i1, i2, i3, i4⟩ := keepBoxes_ok h h6
      refine ⟨(keepBox_ok (g' := g') (D' := D') (ok' := ok') h hb h4).1.app i1, ?_, ?_, ?_⟩
      · intro b' hb'
        unfold hasBox at hb'
        rw [List.any_cons, Bool.or_eq_true] at hb'
        rcases hb' with e | hb'
        · rw [← Nat.eq_of_beq_eq_true e]
          exact ⟨_, List.mem_cons_self ..⟩
        · obtain ⟨v, hv⟩ := i2 b' hb'
          exact ⟨v, List.mem_cons_of_mem _ hv⟩
      · intro k v hm
        rcases List.mem_cons.1 hm with e | hm
        · injection e with e1 e2
          exact ⟨b, e1, _, h1⟩
        · exact i3 k v hm
      · intro fz' hz hk hf hh k v hm
        rcases List.mem_cons.1 hm with e | hm
        · injection e with e1 e2
          obtain ⟨t', x', m', e3, hb'⟩ := (keepBox_ok h hb h4).2 fz' (fun r hr => hz r (List.mem_append.2 (.inl hr))) hk hf.left hh.left
          exact ⟨b, t', x', m', e1, by rw [e2, e3], hb'⟩
        · exact i4 fz' (fun r hr => hz r (List.mem_append.2 (.inr hr))) hk hf.right hh.right k v hm
    · exact (run_fail h2).elim
def findR : Ren → Nat → Option (Option Nat × Val)
  | [], _ => none
  | (q, o, v) :: R, k => match Nat.beq q k with
    | true => some (o, v)
    | false => findR R k
theorem mem_news {R : Ren} {q : Nat} {o : Option Nat} {v : Val} (h : (q, o, v) ∈ R) : q ∈ news R := by
  induction R with
  | nil => cases h
  | cons p R ih =>
    obtain ⟨q', o', v'⟩ := p
    rcases List.mem_cons.1 h with e | h
    · injection e with e1 e2
      subst e1
      exact List.mem_cons_self ..
    · exact List.mem_cons_of_mem _ (ih h)
theorem mem_olds {R : Ren} {q r : Nat} {v : Val} (h : (q, some r, v) ∈ R) : r ∈ olds R := by
  induction R with
  | nil => cases h
  | cons p R ih =>
    obtain ⟨q', o', v'⟩ := p
    rcases List.mem_cons.1 h with e | h2
    · injection e with e1 e2
      injection e2 with e2 e3
      subst e2
      exact List.mem_cons_self ..
    · cases o' with
      | none => exact ih h2
      | some r' => exact List.mem_cons_of_mem _ (ih h2)
theorem findR_of {R : Ren} (hn : nodup (news R) = true) {q : Nat} {o : Option Nat} {v : Val} (h : (q, o, v) ∈ R) : findR R q = some (o, v) := by
  induction R with
  | nil => cases h
  | cons p R ih =>
    obtain ⟨q', o', v'⟩ := p
    simp only [news, nodup, Bool.and_eq_true, Bool.not_eq_true'] at hn
    unfold findR
    rcases List.mem_cons.1 h with e | h
    · injection e with e1 e2
      injection e2 with e2 e3
      subst e1
      subst e2
      subst e3
      rw [Nat.beq_refl]
    · have hne : q' ≠ q := by
        intro e
        subst e
        have := mem_news h
        simp [this] at hn
      rw [nbeq_ne hne]
      exact ih hn.2 h
theorem olds_inj {R : Ren} (hn : nodup (olds R) = true) {q q' r : Nat} {v v' : Val} (h : (q, some r, v) ∈ R) (h' : (q', some r, v') ∈ R) : q = q' := by
  induction R with
  | nil => cases h
  | cons p R ih =>
    obtain ⟨q0, o0, v0⟩ := p
    cases o0 with
    | none =>
      rcases List.mem_cons.1 h with e | h2
      · cases e
      · rcases List.mem_cons.1 h' with e | h2'
        · cases e
        · exact ih hn h2 h2'
    | some r0 =>
      simp only [olds, nodup, Bool.and_eq_true, Bool.not_eq_true'] at hn
      rcases List.mem_cons.1 h with e | h2 <;> rcases List.mem_cons.1 h' with e' | h2'
      · injection e with e1 e2
        injection e' with e3 e4
        rw [e1, e3]
      · injection e with e1 e2
        injection e2 with e2 e3
        injection e2 with e2
        subst e2
        have := mem_olds h2'
        simp [this] at hn
      · injection e' with e1 e2
        injection e2 with e2 e3
        injection e2 with e2
        subst e2
        have := mem_olds h2
        simp [this] at hn
      · exact ih hn.2 h2 h2'
theorem renW_mem {R : Ren} {k : Nat} {u : Option Val} (h : (k, u) ∈ renW R) : ∃ q o v, (q, o, v) ∈ R ∧ k = kR q ∧ u = some v := by
  induction R with
  | nil => cases h
  | cons p R ih =>
    obtain ⟨q', o', v'⟩ := p
    rcases List.mem_cons.1 h with e | h
    · injection e with e1 e2
      exact ⟨q', o', v', List.mem_cons_self .., e1, e2⟩
    · obtain ⟨q, o, v, h1, h2⟩ := ih h
      exact ⟨q, o, v, List.mem_cons_of_mem _ h1, h2⟩
theorem mem_renW {R : Ren} {q : Nat} {o : Option Nat} {v : Val} (h : (q, o, v) ∈ R) : (kR q, some v) ∈ renW R := by
  induction R with
  | nil => cases h
  | cons p R ih =>
    obtain ⟨q', o', v'⟩ := p
    rcases List.mem_cons.1 h with e | h
    · injection e with e1 e2
      injection e2 with e2 e3
      subst e1
      subst e3
      exact List.mem_cons_self ..
    · exact List.mem_cons_of_mem _ (ih h)
def tyOf : Val → Ty
  | .row _ t _ => t
  | _ => .bool
def ghRen (g : Gh) (R : Ren) : Gh := { g with
  ρ := fun q => match findR R q with
    | some (some r, _) => g.ρ r
    | some (none, _) => .slice none 0 0
    | none => .slice none 0 0
  σ := fun q => match findR R q with
    | some (some r, _) => g.σ r
    | some (none, v) => tyOf v
    | none => .bool
  S := fun q => match findR R q with
    | some (some r, _) => g.S r
    | _ => fun _ => False }
theorem ghRen_fits {g : Gh} {R : Ren} (hn : nodup (news R) = true) : Fits g (ghRen g R) R := by
  intro q o v hm
  have := findR_of hn hm
  cases o with
  | some r => simp [ghRen, this]
  | none =>
    simp only [ghRen, this]
    refine ⟨trivial, fun e t he => ?_, trivial⟩
    rw [he]
    rfl
theorem norm_ok {kp : Keep} {st' : St} {l : List Nat} (h : Rel F g st a w) (hr : (norm kp).run st = some (st', l)) : ∃ g', Rel F g' st' a w := by
  unfold norm at hr
  obtain ⟨⟨S1, R1, z1⟩, l1, l2, h1, h2, _⟩ := run_bind hr
  obtain ⟨⟨S2, R2, z2⟩, l3, l4, h3, h4, _⟩ := run_bind h2
  obtain ⟨hc, h5⟩ := run_chk h4
  cases run_ret h5
  simp only [Bool.and_eq_true, Bool.not_eq_true'] at hc
  obtain ⟨⟨hn, ho⟩, hz⟩ := hc
  have hf := ghRen_fits (g := g) hn
  generalize hg' : ghRen g (R1 ++ R2) = g' at hf
  have hD : Has (dom (S1 ++ S2 ++ renW (R1 ++ R2))) (R1 ++ R2) := fun q o v hm => dom_mem.2 ⟨_, List.mem_append.2 (.inr (mem_renW hm))⟩
  obtain ⟨b1, b2, b3, b4⟩ := keepBoxes_ok (g' := g') (D' := dom (S1 ++ S2 ++ renW (R1 ++ R2))) (ok' := F.ok g' (S1 ++ S2 ++ renW (R1 ++ R2))) h h3
  obtain ⟨s1, s2⟩ := keepSlots_ok (g' := g') (D' := dom (S1 ++ S2 ++ renW (R1 ++ R2))) (ok' := F.ok g' (S1 ++ S2 ++ renW (R1 ++ R2))) h h1
  have hR := s1.app b1
  have hβ : g'.β = g.β := by rw [← hg']; rfl
  have hτ : g'.τ = g.τ := by rw [← hg']; rfl
  -- what may be written is less
  have hslot : ∀ k v, (k, v) ∈ S1 → ∃ i, k = kT i := by
    have key : ∀ {ss : List (Nat × Bool)} {S : St} {R : Ren} {fz l : List Nat}, (keepSlots kp.boxes ss).run st = some ((S, R, fz), l) → ∀ k v, (k, v) ∈ S → ∃ i, k = kT i := by
      intro ss
      induction ss with
      | nil => intro S R fz l hr k v hm; cases run_ret hr; cases hm
      | cons p ss ih =>
        obtain ⟨s, own⟩ := p
        intro S R fz l hr k v hm
        obtain ⟨u, m1, q1, q2, _⟩ := run_rd hr
        split at q2
        · obtain ⟨_, q3⟩ := run_chk q2
          obtain ⟨⟨tv', R1, fz1⟩, m3, m4, q4, q5, _⟩ := run_bind q3
          obtain ⟨⟨S2, R2, fz2⟩, m5, m6, q6, q7, _⟩ := run_bind q5
          cases run_ret q7
          rcases List.mem_cons.1 hm with e | hm
          · injection e with e1 e2
            exact ⟨s, e1⟩
          · exact ih q6 k v hm
        · exact (run_fail q2).elim
    exact key h1
  have hAB : ∀ b, Alive (S1 ++ S2 ++ renW (R1 ++ R2)) (kB b) → Alive st (kB b) := by
    rintro b ⟨v, hv⟩
    rcases List.mem_append.1 (get_mem hv) with hm | hm
    · rcases List.mem_append.1 hm with hm | hm
      · obtain ⟨i, e⟩ := hslot _ _ hm
        exact (kT_kB _ _ e.symm).elim
      · obtain ⟨b', e, ha⟩ := b3 _ _ hm
        rw [kB_inj e]; exact ha
    · obtain ⟨q, o, v, _, e, _⟩ := renW_mem hm
      exact (kB_kR _ _ e).elim
  have hAR : ∀ q v, get (S1 ++ S2 ++ renW (R1 ++ R2)) (kR q) = some v → ∃ o, (q, o, v) ∈ R1 ++ R2 := by
    intro q v hv
    rcases List.mem_append.1 (get_mem hv) with hm | hm
    · rcases List.mem_append.1 hm with hm | hm
      · obtain ⟨i, e⟩ := hslot _ _ hm
        exact (kT_kR _ _ e.symm).elim
      · obtain ⟨b', e, ha⟩ := b3 _ _ hm
        exact (kB_kR _ _ e.symm).elim
    · obtain ⟨q', o, v', hm, e, e2⟩ := renW_mem hm
      injection e2 with e2
      rw [kR_inj e, e2]
      exact ⟨o, hm⟩
  have hDR : ∀ q, dom (S1 ++ S2 ++ renW (R1 ++ R2)) (kR q) = true → ∃ o v, (q, o, v) ∈ R1 ++ R2 := by
    intro q hd
    obtain ⟨v, hm⟩ := dom_mem.1 hd
    rcases List.mem_append.1 hm with hm | hm
    · rcases List.mem_append.1 hm with hm | hm
      · obtain ⟨i, e⟩ := hslot _ _ hm
        exact (kT_kR _ _ e.symm).elim
      · obtain ⟨b', e, ha⟩ := b3 _ _ hm
        exact (kB_kR _ _ e.symm).elim
    · obtain ⟨q', o, v', hm, e, e2⟩ := renW_mem hm
      rw [kR_inj e]
      exact ⟨o, v', hm⟩
  have hSk : ∀ q k, Alive (S1 ++ S2 ++ renW (R1 ++ R2)) (kR q) → g'.S q k → ∃ r v, (q, some r, v) ∈ R1 ++ R2 ∧ Alive st (kR r) ∧ g.S r k := by
    rintro q k ⟨v, hv⟩ hk
    obtain ⟨o, hm⟩ := hAR q v hv
    have hfit := hf q o v hm
    have hro := hR q o v hm
    cases o with
    | none => simp only at hfit; rw [hfit.2.2] at hk; exact hk.elim
    | some r =>
      simp only at hfit hro
      rw [hfit.2.2] at hk
      exact ⟨r, v, hm, ⟨v, hro⟩, hk⟩
  have hMut : ∀ k, Mut g' (S1 ++ S2 ++ renW (R1 ++ R2)) k → Mut g st k := by
    rintro k (⟨b, hb, e⟩ | ⟨q, hq, e⟩)
    · exact .inl ⟨b, hAB b hb, by rw [← hβ]; exact e⟩
    · obtain ⟨r, v, _, ha, hk⟩ := hSk q k hq e
      exact .inr ⟨r, ha, hk⟩
  have hfz : ∀ r, (r ∈ z1 ++ z2) → r ∉ olds (R1 ++ R2) := fun r hr => meets_not hz r hr
  have hfa : ∀ r ∈ z1 ++ z2, Alive st (kR r) := by
    have key1 : ∀ {ss : List (Nat × Bool)} {S : St} {R : Ren} {fz l : List Nat}, (keepSlots kp.boxes ss).run st = some ((S, R, fz), l) → ∀ r ∈ fz, Alive st (kR r) := by
      intro ss
      induction ss with
      | nil => intro S R fz l hr r hm; cases run_ret hr; cases hm
      | cons p ss ih =>
        obtain ⟨s, own⟩ := p
        intro S R fz l hr r hm
        obtain ⟨u, m1, q1, q2, _⟩ := run_rd hr
        split at q2
        · obtain ⟨_, q3⟩ := run_chk q2
          obtain ⟨⟨tv', R1, fz1⟩, m3, m4, q4, q5, _⟩ := run_bind q3
          obtain ⟨⟨S2, R2, fz2⟩, m5, m6, q6, q7, _⟩ := run_bind q5
          cases run_ret q7
          rcases List.mem_append.1 hm with hm | hm
          · unfold keepTV at q4
            split at q4
            · split at q4
              · obtain ⟨⟨m', R', j'⟩, l1, l2, h1, h2, _⟩ := run_bind q4
                cases run_ret h2
                cases hm
              · obtain ⟨y, l1, l2, h1, h2, _⟩ := run_bind q4
                cases run_ret h2
                exact full_alive h1 r hm
            · cases run_ret q4; cases hm
            · cases run_ret q4; cases hm
            · obtain ⟨_, q4⟩ := run_chk q4
              cases run_ret q4; cases hm
            · exact (run_fail q4).elim
          · exact ih q6 r hm
        · exact (run_fail q2).elim
    have key2 : ∀ {bs : List (Nat × Bool)} {S : St} {R : Ren} {fz l : List Nat}, (keepBoxes bs).run st = some ((S, R, fz), l) → ∀ r ∈ fz, Alive st (kR r) := by
      intro bs
      induction bs with
      | nil => intro S R fz l hr r hm; cases run_ret hr; cases hm
      | cons p bs ih =>
        obtain ⟨s, own⟩ := p
        intro S R fz l hr r hm
        obtain ⟨u, m1, q1, q2, _⟩ := run_rd hr
        split at q2
        · obtain ⟨⟨tv', R1, fz1⟩, m3, m4, q4, q5, _⟩ := run_bind q2
          obtain ⟨⟨S2, R2, fz2⟩, m5, m6, q6, q7, _⟩ := run_bind q5
          cases run_ret q7
          rcases List.mem_append.1 hm with hm | hm
          · unfold keepBox at q4
            split at q4
            · obtain ⟨⟨m', R', j'⟩, l1, l2, h1, h2, _⟩ := run_bind q4
              cases run_ret h2
              cases hm
            · obtain ⟨y, l1, l2, h1, h2, _⟩ := run_bind q4
              cases run_ret h2
              exact full_alive h1 r hm
          · exact ih q6 r hm
        · exact (run_fail q2).elim
    intro r hr
    rcases List.mem_append.1 hr with hr | hr
    · exact key1 h1 r hr
    · exact key2 h3 r hr
  have hkeeps : Keeps F g g' st (dom (S1 ++ S2 ++ renW (R1 ++ R2))) w (F.ok g' (S1 ++ S2 ++ renW (R1 ++ R2))) (z1 ++ z2) := by
    refine ⟨hβ, hτ, fun k hk _ => ⟨hk.1, fun hm => hk.2 (hMut k hm)⟩, fun r hr k hk hlt => ⟨?_, ?_⟩⟩
    · rcases (h.newR r (hfa r hr) k hk).1 with h6 | h6
      · exact .inr (.inl h6)
      · exact .inr (.inr h6)
    · rintro (⟨b, hb, e⟩ | ⟨q, hq, e⟩)
      · refine h.dBR b r (hAB b hb) (hfa r hr) ?_
        rw [← hβ, e]; exact hk
      · obtain ⟨r', v, hm, ha, hk'⟩ := hSk q k hq e
        have hne : r ≠ r' := fun e => hfz r hr (by rw [e]; exact mem_olds hm)
        exact h.dRR r r' (hfa r hr) ha hne k hk hk'
  have hslots := s2 (z1 ++ z2) (fun r hr => List.mem_append.2 (.inl hr)) hkeeps hf.left hD.left (fun b hb => by
    obtain ⟨v, hv⟩ := b2 b hb
    exact dom_mem.2 ⟨v, List.mem_append.2 (.inl (List.mem_append.2 (.inr hv)))⟩)
  have hboxes := b4 (z1 ++ z2) (fun r hr => List.mem_append.2 (.inr hr)) hkeeps hf.right hD.right
  refine ⟨g', h.size, h.keep, h.defers, h.os, h.tape, h.output, h.grow, h.frame, ?_, ?_, ?_, ?_, ?_, ?_, ?_, ?_, ?_⟩
  · intro i v hv
    rcases List.mem_append.1 (get_mem hv) with hm | hm
    · rcases List.mem_append.1 hm with hm | hm
      · obtain ⟨i', tv, e, e2, ht⟩ := hslots _ _ hm
        injection e2 with e2
        have := kT_inj e
        subst this
        exact ⟨tv, e2, ht⟩
      · obtain ⟨b', e, ha⟩ := b3 _ _ hm
        exact (kT_kB _ _ e).elim
    · obtain ⟨q, o, v, _, e, _⟩ := renW_mem hm
      exact (kT_kR _ _ e).elim
  · intro b v hv
    rcases List.mem_append.1 (get_mem hv) with hm | hm
    · rcases List.mem_append.1 hm with hm | hm
      · obtain ⟨i, e⟩ := hslot _ _ hm
        exact (kT_kB _ _ e.symm).elim
      · obtain ⟨b', t, x, m, e, e2, hb⟩ := hboxes _ _ hm
        injection e2 with e2
        have := kB_inj e
        subst this
        exact ⟨t, x, m, e2, hb⟩
    · obtain ⟨q, o, v, _, e, _⟩ := renW_mem hm
      exact (kB_kR _ _ e).elim
  · intro q v hv
    obtain ⟨o, hm⟩ := hAR q v hv
    have hfit := hf q o v hm
    have hro := hR q o v hm
    cases o with
    | some r =>
      simp only at hfit hro
      obtain ⟨e, t, xs, e1, e2, e3⟩ := h.rows r v hro
      refine ⟨e, t, xs, e1, hfit.2.1.trans e2, ?_⟩
      rw [hfit.1, hfit.2.2]
      exact e3
    | none =>
      simp only at hfit hro
      obtain ⟨e, t, e1⟩ := hro
      refine ⟨e, t, [], e1, hfit.2.1 e t e1, ?_⟩
      rw [hfit.1, hfit.2.2]
      exact Kd.S_nil _ _ _ _ _
  · intro q hd
    obtain ⟨o, v, hm⟩ := hDR q hd
    have hfit := hf q o v hm
    have hro := hR q o v hm
    cases o with
    | some r =>
      simp only at hfit hro
      rw [hfit.1]
      exact h.isl r (dom_of_get hro)
    | none =>
      simp only at hfit
      rw [hfit.1]
      rfl
  · intro b hb
    rw [hβ]
    exact h.newB b (hAB b hb)
  · intro q hq k hk
    obtain ⟨r, v, _, ha, hk'⟩ := hSk q k hq hk
    exact h.newR r ha k hk'
  · intro b b' hb hb' e
    rw [hβ] at e
    exact h.dBB b b' (hAB b hb) (hAB b' hb') e
  · intro b q hb hq hk
    rw [hβ] at hk
    obtain ⟨r, v, _, ha, hk'⟩ := hSk q _ hq hk
    exact h.dBR b r (hAB b hb) ha hk'
  · intro q q' hq hq' hne k hk hk'
    obtain ⟨r, v, hm, ha, h6⟩ := hSk q k hq hk
    obtain ⟨r', v', hm', ha', h6'⟩ := hSk q' k hq' hk'
    refine h.dRR r r' ha ha' (fun e => ?_) k h6 h6'
    subst e
    exact hne (olds_inj ho hm hm')
end
end Go.Proofs.YtcmjbplnjjdcdaaGreat.Ref

namespace Go.Proofs.YtcmjbplnjjdcdaaGreat.Ref
open Go.RowKit Go.Proofs.YtcmjbplnjjdcdaaGreatW.PrintWords Go.Proofs.YtcmjbplnjjdcdaaGreatW.PrintLast

def codeOk (p n : Nat) : Code → Bool
  | .region _ ops _ => ops.toList.all (dstLt p n)
  | .seq a b => codeOk p n a && codeOk p n b
  | .cond _ a b => codeOk p n a && codeOk p n b
  | .block _ c => codeOk p n c
  | .loop c => codeOk p n c
  | _ => true

section
variable {P : Program} {T : Tab} {G : Sigs} {O : Orac} {A : Ann} {F : Fx} {g : Gh} {st st' : St} {a : Act} {w : World} {r : Ret} {n : Nat}
theorem run_ok (hT : TabOk P T) (hO : OracOk P G O) (hm : P.follows .mixedOrders = true) : ∀ (c : Code) (lp : Nat) (nrm : KSt) (brk : Nat → KSt) (ret : KSt) (Q : Exit → Act → World → Prop) (g : Gh) (st : St) (a : Act) (w : World),
    codeOk F.np F.n c = true → run T G O A n c lp nrm brk ret st = some r → Rel F g st a w → (∀ g st a w, nrm st = some r → Rel F g st a w → Q .normal a w) → (∀ id g st a w, brk id st = some r → Rel F g st a w → Q (.exit id) a w) →
    (∀ g st a w, ret st = some r → Rel F g st a w → Q .ret a w) → c.wp P Q a w := by
  intro c
  induction c with
  | skip =>
    intro lp nrm brk ret Q g st a w hc h hr hN hB hR
    exact wp_skip (hN g st a w h hr)
  | region id ops draw =>
    intro lp nrm brk ret Q g st a w hc h hr hN hB hR
    cases draw with
    | false => exact wp_region_list (runOps_ok hT hO rfl hN ops.toList g st a w hc h hr)
    | true =>
      unfold run at h
      cases hd : drawOk ops (bMasks (rtab .any ops).2 []) with
      | false => rw [hd] at h; cases h
      | true =>
        rw [hd] at h
        have hD0 : Drawn P T G ops.toList (bMasks (rtab .any ops).2 []) st [] := ⟨fun i o p _ hp => by simp at hp, fun i j p q _ hp => by simp at hp⟩
        obtain ⟨H, st', hD, hlen, hs, hk⟩ := runDraw_ok hO ops.toList [] [] st rfl (Nat.zero_le _) (Same.refl _) hD0 (fun i p hp => by simp at hp) h
        exact draw_ok hT hm hD (by rw [hlen, Array.length_toList]) hd hc hr (fun g' a' w' hr' => hN g' st' a' w' hk (hr'.same hs))
  | seq x y ihx ihy =>
    intro lp nrm brk ret Q g st a w hc h hr hN hB hR
    simp only [codeOk, Bool.and_eq_true] at hc
    refine wp_seq (ihx lp _ brk ret _ g st a w hc.1 h hr ?_ hB hR)
    intro g' st' a' w' h' hr'
    exact ihy lp nrm brk ret Q g' st' a' w' hc.2 h' hr' hN hB hR
  | cond c x y ihx ihy =>
    intro lp nrm brk ret Q g st a w hc h hr hN hB hR
    simp only [codeOk, Bool.and_eq_true] at hc
    unfold run at h
    obtain ⟨v, l, h1, L, h2, h3⟩ := runK_some h
    split at h3
    · rename_i b m
      have hv := TV_bool (ev_TV hr h1)
      refine wp_cond hv ?_
      cases b with
      | true => exact ihx lp nrm brk ret Q g st a w hc.1 h3 hr hN hB hR
      | false => exact ihy lp nrm brk ret Q g st a w hc.2 h3 hr hN hB hR
    · cases h3
  | block id c ih =>
    intro lp nrm brk ret Q g st a w hc h hr hN hB hR
    refine wp_block (ih id nrm _ ret _ g st a w hc h hr hN ?_ hR)
    intro id' g' st' a' w' h' hr'
    show if id' = id then Q .normal a' w' else Q (.exit id') a' w'
    by_cases e : id' = id
    · subst e
      rw [if_pos rfl]
      rw [Nat.beq_refl] at h'
      exact hN g' st' a' w' h' hr'
    · rw [if_neg e]
      rw [nbeq_ne e] at h'
      exact hB id' g' st' a' w' h' hr'
  | loop c ih =>
    intro lp nrm brk ret Q g st a w hc h hr hN hB hR
    unfold run at h
    obtain ⟨st1, l1, h1, L1, h2, h3⟩ := runK_some h
    obtain ⟨g1, hr1⟩ := norm_ok hr h1
    generalize hLF : (fun m st => Nat.rec (motive := fun _ => KSt) (fun _ => none) (fun _ ih st => run T G O A n c lp (fun s => (norm (A lp)).runK s [] fun s' _ => ih s') brk ret st) m st : Nat → KSt) = LF at h3
    have hS : ∀ m st, LF (m + 1) st = run T G O A n c lp (fun s => (norm (A lp)).runK s [] fun s' _ => LF m s') brk ret st := by
      intro m st
      rw [← hLF]
    have h0 : ∀ st, LF 0 st = none := by
      intro st
      rw [← hLF]
      rfl
    have h3' : LF n st1 = some r := by
      rw [← hLF]; exact h3
    refine wp_loop_ghost (fun m a w => ∃ g st, LF m st = some r ∧ Rel F g st a w) n ⟨g1, st1, h3', hr1⟩ ?_
    rintro m a w ⟨g, st, hl, hr⟩
    cases m with
    | zero => rw [h0] at hl; cases hl
    | succ m =>
      rw [hS] at hl
      refine ih lp _ brk ret _ g st a w hc hl hr ?_ hB hR
      intro g' st' a' w' h' hr'
      obtain ⟨st2, l2, h4, L2, h5, h6⟩ := runK_some h'
      obtain ⟨g2, hr2⟩ := norm_ok hr' h4
      exact ⟨m, Nat.lt_succ_self m, g2, st2, h6, hr2⟩
  | exit id =>
    intro lp nrm brk ret Q g st a w hc h hr hN hB hR
    exact wp_exit (hB id g st a w h hr)
  | ret =>
    intro lp nrm brk ret Q g st a w hc h hr hN hB hR
    exact wp_ret (hR g st a w h hr)
  | _ =>
    intro lp nrm brk ret Q g st a w hc h hr hN hB hR
    cases h

theorem retV_ok {gc : Gh} {ok' : Nat → Prop} (h : Rel F g st a w) : ∀ (t : Ty) {x y : t.den} {m sm : Mk} {R : Ren} {fz l : List Nat} {cs : List Value}, (retV t x m sm).run st = some ((y, R, fz), l) →
    RenOk st R ∧ (∀ r ∈ fz, Alive st (kR r)) ∧ (∀ j ∈ idsT t sm, ∃ o v, (j, o, v) ∈ R) ∧ ∀ (fz' : List Nat), (∀ r ∈ fz, r ∈ fz') → (∀ k, F.ok g st k → k < w.heap.size → ok' k) → (∀ r ∈ fz', ∀ k, g.S r k → k < w.heap.size → ok' k) → Fits g gc R → VR g (dom st) w (F.ok g st) t x m cs →
      VR gc (fun _ => true) w ok' t y sm cs ∧ OwnR gc w t y sm := by
  intro t
  induction t with
  | slice e t _ =>
    intro x y m sm R fz l cs hr
    cases sm with
    | own j =>
      cases m with
      | own r =>
        obtain ⟨v, l1, h1, h2, _⟩ := run_rd hr
        split at h2
        · rename_i e' t' xs
          split at h2
          · rename_i z hz
            obtain ⟨q1, q2⟩ := cast_some hz
            cases q1
            cases q2
            cases run_ret h2
            refine ⟨?_, fun r hr => (by cases hr), fun j' hj => ?_, fun fz' hz hk hf hfit hv => ?_⟩
            · intro q o v hm
              have := List.mem_singleton.1 hm
              injection this with a1 a2
              injection a2 with a2 a3
              subst a2
              subst a3
              exact h1
            · have := List.mem_singleton.1 hj
              subst this
              exact ⟨_, _, List.mem_singleton.2 rfl⟩
            · simp only [VR] at hv ⊢
              have hft := hfit j (some r) _ (List.mem_singleton.2 rfl)
              simp only at hft
              obtain ⟨hs, hrow⟩ := h.rowS h1
              refine ⟨⟨by rw [hft.1]; exact hv.1, trivial⟩, hft.2.1.trans hs, ?_⟩
              rw [hft.1, hft.2.2]
              exact hrow
          · exact (run_fail h2).elim
        · exact (run_fail h2).elim
      | nil =>
        cases run_ret hr
        refine ⟨?_, fun r hr => (by cases hr), fun j' hj => ?_, fun fz' hz hk hf hfit hv => ?_⟩
        · intro q o v hm
          have := List.mem_singleton.1 hm
          injection this with a1 a2
          injection a2 with a2 a3
          subst a2
          subst a3
          exact ⟨e, t, rfl⟩
        · have := List.mem_singleton.1 hj
          subst this
          exact ⟨_, _, List.mem_singleton.2 rfl⟩
        · simp only [VR] at hv ⊢
          have hft := hfit j none _ (List.mem_singleton.2 rfl)
          simp only at hft
          refine ⟨⟨by rw [hft.1]; exact hv, trivial⟩, hft.2.1 e t rfl, ?_⟩
          rw [hft.1, hft.2.2]
          exact Kd.S_nil _ _ _ _ _
      | no => exact (run_fail hr).elim
      | pair p q => exact (run_fail hr).elim
    | no =>
      have hr' : ((full (.slice e t) x m).bind fun y => Pg.ret (y, ([] : Ren), idsT (.slice e t) m)).run st = some ((y, R, fz), l) := by
        cases m <;> exact hr
      exact plain h hr'
    | nil => exact (run_fail (by cases m <;> exact hr)).elim
    | pair p q => exact (run_fail (by cases m <;> exact hr)).elim
  | pair p q ihp ihq =>
    intro x y m sm R fz l cs hr
    cases sm with
    | pair sp sq =>
      cases m with
      | pair m n =>
        obtain ⟨⟨y1, R1, z1⟩, l1, l2, h1, h2, _⟩ := run_bind hr
        obtain ⟨⟨y2, R2, z2⟩, l3, l4, h3, h4, _⟩ := run_bind h2
        cases run_ret h4
        obtain ⟨a1, a2, a3, _⟩ := ihp (cs := []) h1
        obtain ⟨b1, b2, b3, _⟩ := ihq (cs := []) h3
        refine ⟨a1.app b1, fun r hr => (List.mem_append.1 hr).elim (a2 r) (b2 r), fun j hj => ?_, fun fz' hz hk hf hfit hv => ?_⟩
        · rcases List.mem_append.1 hj with hj | hj
          · obtain ⟨o, v, hm⟩ := a3 j hj
            exact ⟨o, v, List.mem_append.2 (.inl hm)⟩
          · obtain ⟨o, v, hm⟩ := b3 j hj
            exact ⟨o, v, List.mem_append.2 (.inr hm)⟩
        · simp only [VR] at hv ⊢
          obtain ⟨c0, c1, e, hv0, hv1⟩ := hv
          obtain ⟨p1, p2⟩ := (ihp h1).2.2.2 fz' (fun r hr => hz r (List.mem_append.2 (.inl hr))) hk hf hfit.left hv0
          obtain ⟨q1, q2⟩ := (ihq h3).2.2.2 fz' (fun r hr => hz r (List.mem_append.2 (.inr hr))) hk hf hfit.right hv1
          exact ⟨⟨c0, c1, e, p1, q1⟩, p2, q2⟩
      | no => exact (run_fail hr).elim
      | nil => exact (run_fail hr).elim
      | own r => exact (run_fail hr).elim
    | no =>
      have hr' : ((full (.pair p q) x m).bind fun y => Pg.ret (y, ([] : Ren), idsT (.pair p q) m)).run st = some ((y, R, fz), l) := by
        cases m <;> exact hr
      exact plain h hr'
    | nil => exact (run_fail (by cases m <;> exact hr)).elim
    | own j => exact (run_fail (by cases m <;> exact hr)).elim
  | int k =>
    intro x y m sm R fz l cs hr
    cases sm with
    | no => exact plain h hr
    | _ => exact (run_fail hr).elim
  | bool =>
    intro x y m sm R fz l cs hr
    cases sm with
    | no => exact plain h hr
    | _ => exact (run_fail hr).elim
  | str =>
    intro x y m sm R fz l cs hr
    cases sm with
    | no => exact plain h hr
    | _ => exact (run_fail hr).elim
  where
  plain {gc : Gh} {ok' : Nat → Prop} (h : Rel F g st a w) {t : Ty} {x y : t.den} {m : Mk} {R : Ren} {fz l : List Nat} {cs : List Value} (hr : ((full t x m).bind fun y => Pg.ret (y, ([] : Ren), idsT t m)).run st = some ((y, R, fz), l)) :
    RenOk st R ∧ (∀ r ∈ fz, Alive st (kR r)) ∧ (∀ j ∈ idsT t .no, ∃ o v, (j, o, v) ∈ R) ∧ ∀ (fz' : List Nat), (∀ r ∈ fz, r ∈ fz') → (∀ k, F.ok g st k → k < w.heap.size → ok' k) → (∀ r ∈ fz', ∀ k, g.S r k → k < w.heap.size → ok' k) → Fits g gc R → VR g (dom st) w (F.ok g st) t x m cs →
      VR gc (fun _ => true) w ok' t y .no cs ∧ OwnR gc w t y .no := by
    obtain ⟨z, l1, l2, h1, h2, _⟩ := run_bind hr
    cases run_ret h2
    refine ⟨RenOk.nil, full_alive h1, fun j hj => (by rw [idsT_no] at hj; cases hj), fun fz' hz hk hf hfit hv => ⟨VR_no.2 (Foot.mv (full_FK h h1 hv) (fun _ _ _ => rfl) ?_), by cases t <;> trivial⟩⟩
    rintro k (h3 | ⟨r, hr, h3⟩) hlt
    · exact hk k h3 hlt
    · exact hf r (hz r hr) k h3 hlt
/-- What a result variable holds. -/
def ResVal (P : Program) (a : Act) (w : World) : ResultVar → Value → Prop
  | .tmp t, u => u = a.tmps.getD t undef
  | .cell b t, u => (do loadVar t (← asAddr (a.tmps.getD b undef)) : Sem Value).run P w = .ok u w
def ResVals (P : Program) (a : Act) (w : World) : List ResultVar → List Value → Prop
  | [], us => us = []
  | r :: rs, us => ∃ u us', us = u :: us' ∧ ResVal P a w r u ∧ ResVals P a w rs us'
theorem retTail {gc : Gh} {ok' : Nat → Prop} (h : Rel F g st a w) {s : Ty × Mk} {t0 : Ty} {x0 : t0.den} {m0 : Mk} {v : Dv} {R1 : Ren} {z1 l : List Nat} (hq : t0.beq s.1 = true) (q3 : ((retV t0 x0 m0 s.2).bind fun (y, R, l) => Pg.ret ((⟨t0, y⟩ : Dv), R, l)).run st = some ((v, R1, z1), l)) :
    RenOk st R1 ∧ (∀ r ∈ z1, Alive st (kR r)) ∧ (∀ j ∈ idsT s.1 s.2, ∃ o v, (j, o, v) ∈ R1) ∧ ∀ (fz' : List Nat) (cs : List Value), (∀ r ∈ z1, r ∈ fz') → (∀ k, F.ok g st k → k < w.heap.size → ok' k) → (∀ r ∈ fz', ∀ k, g.S r k → k < w.heap.size → ok' k) → Fits g gc R1 → VR g (dom st) w (F.ok g st) t0 x0 m0 cs →
      ∃ y : t0.den, v = ⟨t0, y⟩ ∧ t0 = s.1 ∧ VR gc (fun _ => true) w ok' t0 y s.2 cs ∧ OwnR gc w t0 y s.2 := by
  obtain ⟨⟨y, R3, z3⟩, m3, m4, q4, q5, _⟩ := run_bind q3
  cases run_ret q5
  obtain ⟨s1, s2⟩ := s
  have ht := Ty.eq_of_beq hq
  simp only at ht
  subst ht
  obtain ⟨a1, a2, a3, _⟩ := retV_ok (gc := gc) (ok' := ok') h _ (cs := []) q4
  refine ⟨a1, a2, a3, fun fz' cs hz hk hf hfit hv => ?_⟩
  obtain ⟨p1, p2⟩ := (retV_ok h _ q4).2.2.2 fz' hz hk hf hfit hv
  exact ⟨y, rfl, rfl, p1, p2⟩
theorem var_run (hT : TabOk P T) {n : Nat} {t : Ty} (ht : T.ty n = some t) {b : Addr} {cs : List Value} (hl : cs.length = t.sz) (hc : Cells w b cs) : (loadVar n b).run P w = .ok (valOf t cs) w := by
  have h1 := load_run hT ht hl hc
  unfold Instr.loadAt Instr.sureAddr at h1
  simpa using h1
theorem retAll_ok {gc : Gh} {ok' : Nat → Prop} (hT : TabOk P T) (h : Rel F g st a w) : ∀ {sg : Sig} {rs : List ResultVar} {vs : List Dv} {R : Ren} {fz l : List Nat}, (retAll T sg rs).run st = some ((vs, R, fz), l) →
    RenOk st R ∧ (∀ r ∈ fz, Alive st (kR r)) ∧ (∀ j ∈ sigIds sg, ∃ o v, (j, o, v) ∈ R) ∧ ∃ us : List Value, ResVals P a w rs us ∧ ∀ (fz' : List Nat), (∀ r ∈ fz, r ∈ fz') → (∀ k, F.ok g st k → k < w.heap.size → ok' k) → (∀ r ∈ fz', ∀ k, g.S r k → k < w.heap.size → ok' k) → Fits g gc R →
      ResR gc w ok' sg vs us
  | [], [], vs, R, fz, l, hr => by
    cases run_ret hr
    exact ⟨RenOk.nil, fun _ h => (List.not_mem_nil h).elim, fun _ h => (List.not_mem_nil h).elim, [], rfl, fun _ _ _ _ _ => rfl⟩
  | s :: ss, x :: rs, vs, R, fz, l, hr => by
    obtain ⟨⟨v, R1, z1⟩, l1, l2, h1, h2, _⟩ := run_bind hr
    obtain ⟨⟨vs', R2, z2⟩, l3, l4, h3, h4, _⟩ := run_bind h2
    cases run_ret h4
    obtain ⟨b1, b2, b3, us, e, b4⟩ := retAll_ok (gc := gc) (ok' := ok') hT h h3
    have one : ∃ (t0 : Ty) (x0 : t0.den) (m0 : Mk) (cs : List Value) (l' : List Nat), t0.beq s.1 = true ∧ ((retV t0 x0 m0 s.2).bind fun (y, R, l) => Pg.ret ((⟨t0, y⟩ : Dv), R, l)).run st = some ((v, R1, z1), l') ∧ ResVal P a w x (valOf t0 cs) ∧ VR g (dom st) w (F.ok g st) t0 x0 m0 cs := by
      cases x with
      | tmp t =>
        obtain ⟨u, m1, q1, q2, _⟩ := run_rd h1
        split at q2
        · rename_i t0 x0 m0
          obtain ⟨hq, q3⟩ := run_chk q2
          obtain ⟨tv, e1, hv⟩ := h.tmps t _ q1
          injection e1 with e1
          subst e1
          simp only [TVR] at hv
          obtain ⟨cs, e2, hv⟩ := hv
          exact ⟨t0, x0, m0, cs, m1, hq, q3, e2.symm, hv⟩
        · exact (run_fail q2).elim
      | cell c n =>
        obtain ⟨u, m1, q1, q2, _⟩ := run_rd h1
        split at q2
        · rename_i b
          obtain ⟨u', m2, q4, q5, _⟩ := run_rd q2
          split at q5
          · rename_i t0 x0 m0
            unfold retBox at q5
            split at q5
            · rename_i t' ht'
              obtain ⟨hq, q6⟩ := run_chk q5
              rw [Bool.and_eq_true] at hq
              have := Ty.eq_of_beq hq.1
              subst this
              obtain ⟨tv, e1, hv⟩ := h.tmps c _ q1
              injection e1 with e1
              subst e1
              simp only [TVR] at hv
              obtain ⟨t1, x1, m3, e2, hb, cs, ty, hh, hc⟩ := h.boxes b _ q4
              injection e2 with e2 e3 e4
              subst e2
              cases e3
              cases e4
              refine ⟨t0, x0, m0, cs, m2, hq.2, q6, ?_, hc⟩
              have h0 : offp (g.τ b) [] = 0 := by cases g.τ b <;> simp [offp]
              have hh' : w.heap[g.β b]? = some (.cells ([] ++ cs ++ []).toArray ty (0, 0)) := by rw [hh]; simp
              have := var_run hT ht' (VR_len hc) (cells_of_block (o := 0) hh' rfl)
              show (do loadVar n (← asAddr (a.tmps.getD c undef)) : Sem Value).run P w = _
              rw [hv.1, h0]
              simpa [asAddr] using this
            · exact (run_fail q5).elim
          · exact (run_fail q5).elim
        · exact (run_fail q2).elim
    obtain ⟨t0, x0, m0, cs, l', hq, q3, hval, hv⟩ := one
    obtain ⟨a1, a2, a3, a4⟩ := retTail (gc := gc) (ok' := ok') h hq q3
    refine ⟨a1.app b1, fun r hr => (List.mem_append.1 hr).elim (a2 r) (b2 r), fun j hj => ?_, valOf t0 cs :: us, ⟨_, _, rfl, hval, e⟩, fun fz' hz hk hf hfit => ?_⟩
    · obtain ⟨s1, s2⟩ := s
      rcases List.mem_append.1 hj with hj | hj
      · obtain ⟨o, v, hm⟩ := a3 j hj
        exact ⟨o, v, List.mem_append.2 (.inl hm)⟩
      · obtain ⟨o, v, hm⟩ := b3 j hj
        exact ⟨o, v, List.mem_append.2 (.inr hm)⟩
    · obtain ⟨s1, s2⟩ := s
      obtain ⟨y, e1, e2, p1, p2⟩ := a4 fz' cs (fun r hr => hz r (List.mem_append.2 (.inl hr))) hk hf hfit.left hv
      subst e1
      exact ⟨e2, cs, us, rfl, p1, p2, b4 fz' (fun r hr => hz r (List.mem_append.2 (.inr hr))) hk hf hfit.right⟩
  | [], _ :: _, vs, R, fz, l, hr => (run_fail hr).elim
  | _ :: _, [], vs, R, fz, l, hr => (run_fail hr).elim
theorem mapM_run {f : ResultVar → Sem Value} (hf : ∀ r u, ResVal P a w r u → (f r).run P w = .ok u w) : ∀ {rs : List ResultVar} {us : List Value}, ResVals P a w rs us → (List.mapM f rs).run P w = .ok us w
  | [], us, h => by
    have h : us = [] := h
    subst h
    rfl
  | r :: rs, us, h => by
    obtain ⟨u, us', e, h1, h2⟩ := h
    subst e
    rw [List.mapM_cons]
    simp [hf r u h1, mapM_run hf h2]
theorem results_all {fn : Func} {us : List Value} (h : ResVals P a w fn.results.toList us) : (results fn a.tmps).run P w = .ok (tupled us) w := by
  have h' : fn.results = fn.results.toList.toArray := by simp
  unfold results
  rw [h']
  simp only [List.mapM_toArray]
  have key := fun f hf => mapM_run (f := f) (P := P) (a := a) (w := w) hf h
  simp only [Sem.run_bind, Sem.run_map]
  rw [key]
  · cases us with
    | nil => simp [tupled]
    | cons t ts =>
      cases ts with
      | nil => simp [tupled]
      | cons t' ts => simp [tupled]
  · intro r u hr
    cases r with
    | tmp t => have : u = a.tmps.getD t undef := hr; subst this; rfl
    | cell b t => exact hr

theorem enter_get : ∀ {as : List AV} {vs : List Value} {ok : Nat → Prop} {i j : Nat} {v : Val}, AVRs w ok as vs → get (enterArgs as i) (kT j) = some v → ∃ av u, v = .tv (enterTV av) ∧ AVR w ok av u ∧ i ≤ j ∧ vs[j - i]? = some u
  | [], vs, ok, i, j, v, _, hg => by cases hg
  | x :: as, vs, ok, i, j, v, h, hg => by
    simp only [AVRs] at h
    obtain ⟨u, vs', e, h1, h2⟩ := h
    subst e
    by_cases e : i = j
    · subst e
      unfold enterArgs at hg
      rw [get_cons_same] at hg
      injection hg with hg
      exact ⟨x, u, hg.symm, h1, Nat.le_refl _, by simp⟩
    · unfold enterArgs at hg
      rw [get_cons_ne _ _ (fun e' => e (kT_inj e'))] at hg
      obtain ⟨av, u', h3, h4, h5, h6⟩ := enter_get h2 hg
      refine ⟨av, u', h3, h4, by omega, ?_⟩
      have : j - i = (j - (i + 1)) + 1 := by omega
      rw [this, List.getElem?_cons_succ]
      exact h6
theorem enter_other : ∀ {as : List AV} {i k : Nat}, (∀ j, k ≠ kT j) → get (enterArgs as i) k = none ∧ dom (enterArgs as i) k = false
  | [], _, _, _ => ⟨rfl, rfl⟩
  | x :: as, i, k, h => by
    unfold enterArgs
    rw [get_cons_ne _ _ (h i).symm, dom_cons_ne _ _ (h i).symm]
    exact enter_other h
mutual
theorem enter_TV {D : Nat → Bool} {ok ok' : Nat → Prop} (ho : ∀ k, ok k → k < w.heap.size → ok' k) : ∀ {av : AV} {v : Value}, AVR w ok av v → TVR g D w ok' (enterTV av) v
  | .val t x, v, h => by
    simp only [AVR] at h
    simp only [enterTV, TVR]
    obtain ⟨cs, e, h⟩ := h
    exact ⟨cs, e, VR_no.2 (Foot.mv h (fun _ _ _ => rfl) ho)⟩
  | .ref t x, v, h => by
    simp only [AVR] at h
    simp only [enterTV, TVR]
    obtain ⟨b, cs, e, h⟩ := h
    exact ⟨b, cs, e, Foot.mv h (fun _ _ _ => rfl) ho⟩
  | .clo f caps, v, h => by
    simp only [AVR] at h
    simp only [enterTV, TVR]
    obtain ⟨vs, e, h⟩ := h
    exact ⟨vs, e, enter_TVs ho h⟩
  | .nil e t, v, h => by
    simp only [AVR] at h
    simp only [enterTV, TVR]
    exact ⟨[.slice none 0 0], h, by simp only [VR]⟩
  | .lend _ _ _, v, h => h.elim
theorem enter_TVs {D : Nat → Bool} {ok ok' : Nat → Prop} (ho : ∀ k, ok k → k < w.heap.size → ok' k) : ∀ {as : List AV} {vs : List Value}, AVRs w ok as vs → TVRs g D w ok' (enterTV.enterTVs as) vs
  | [], v, h => by
    simp only [AVRs] at h
    simp only [enterTV.enterTVs, TVRs]
    exact h
  | x :: as, v, h => by
    simp only [AVRs] at h
    simp only [enterTV.enterTVs, TVRs]
    obtain ⟨u, vs', e, h1, h2⟩ := h
    exact ⟨u, vs', e, enter_TV ho h1, enter_TVs ho h2⟩
end
theorem AVRs_len : ∀ {as : List AV} {vs : List Value} {ok : Nat → Prop}, AVRs w ok as vs → vs.length = as.length
  | [], vs, ok, h => by simp only [AVRs] at h; rw [h]; rfl
  | x :: as, vs, ok, h => by
    simp only [AVRs] at h
    obtain ⟨u, vs', e, h1, h2⟩ := h
    rw [e, List.length_cons, List.length_cons, AVRs_len h2]
theorem said_of (hT : TabOk P T) (hO : OracOk P G O) (hm : P.follows .mixedOrders = true) {f : Nat} {fn : Func} {sg : Sig} {as : List AV} (hf : P.funcs[f]? = some fn) (hname : (fn.name == "runtime.NumGoroutine") = false)
    (hc : (match fn.body with | some c => codeOk 0 fn.ntmps c | none => false) = true) (h : absF T G O A fn sg n as = some r) : Said P sg f as r := by
  unfold absF at h
  cases hb : fn.body with
  | none => rw [hb] at h; cases h
  | some c =>
    rw [hb] at h hc
    simp only at h hc
    cases hle : Nat.ble as.length fn.ntmps with
    | false => rw [hle] at h; cases h
    | true =>
      rw [hle] at h
      have hle := Nat.le_of_ble_eq_true hle
      refine ⟨⟨fn, hf, hname, by rw [hb]; rfl⟩, fun w ok vs hav => ?_⟩
      refine calls_of_wp hf hb ?_
      have hlen := AVRs_len hav
      have hend : ∀ g st a w', retK T fn sg st = some r → Rel ⟨w, ok, fun _ => False, fn.ntmps, 0, fun _ => undef⟩ g st a w' → a.defers = [] ∧ ∃ v, (results fn a.tmps).run P w' = .ok v w' ∧ Post sg w ok r v w' := by
        intro g st a w' hk hr
        obtain ⟨q, l, h1, L, _, h3⟩ := runK_some hk
        injection h3 with h3
        subst h3
        unfold retP at h1
        obtain ⟨⟨vs, R, fz⟩, l1, l2, h4, h5, _⟩ := run_bind h1
        obtain ⟨hck, h6⟩ := run_chk h5
        cases run_ret h6
        simp only [Bool.and_eq_true, Bool.not_eq_true'] at hck
        obtain ⟨⟨hn, ho⟩, hz⟩ := hck
        have hfit := ghRen_fits (g := g) hn
        generalize ghRen g R = gc at hfit
        obtain ⟨a1, a2, a3, us, e, a4⟩ := retAll_ok (gc := gc) (ok' := okP gc (sigIds sg) w ok) hT hr h4
        refine ⟨hr.defers, _, results_all e, gc, _, ?_, rfl, a4 fz (fun _ h => h) ?_ ?_ hfit, ?_, ?_⟩
        · exact ⟨hr.os, hr.tape, hr.output, hr.grow, fun k hk => hr.frame k hk (fun h => h)⟩
        · intro k hk hlt
          refine ⟨hk.1.imp id (fun h => h.resolve_right (fun h => h)), fun j hj hs => hk.2 ?_⟩
          obtain ⟨o, v, hm⟩ := a3 j hj
          have h7 := hfit j o v hm
          have h8 := a1 j o v hm
          cases o with
          | none => simp only at h7; rw [h7.2.2] at hs; exact hs.elim
          | some q => simp only at h7 h8; rw [h7.2.2] at hs; exact .inr ⟨q, ⟨_, h8⟩, hs⟩
        · intro q hq k hk hlt
          refine ⟨?_, fun j hj hs => ?_⟩
          · rcases (hr.newR q (a2 q hq) k hk).1 with h9 | h9
            · exact .inr h9
            · exact h9.elim
          · obtain ⟨o, v, hm⟩ := a3 j hj
            have h7 := hfit j o v hm
            have h8 := a1 j o v hm
            cases o with
            | none => simp only at h7; rw [h7.2.2] at hs; exact hs.elim
            | some q' =>
              simp only at h7 h8
              rw [h7.2.2] at hs
              have hne : q ≠ q' := fun e => meets_not hz q hq (by rw [e]; exact mem_olds hm)
              exact hr.dRR q q' (a2 q hq) ⟨_, h8⟩ hne k hk hs
        · intro j hj
          obtain ⟨o, v, hm⟩ := a3 j hj
          have h7 := hfit j o v hm
          have h8 := a1 j o v hm
          cases o with
          | none =>
            simp only at h7
            rw [h7.1, h7.2.2]
            exact ⟨rfl, fun k hk => hk.elim⟩
          | some q =>
            simp only at h7 h8
            rw [h7.1, h7.2.2]
            refine ⟨hr.isl q (dom_of_get h8), fun k hk => ?_⟩
            have := hr.newR q ⟨_, h8⟩ k hk
            rcases this.1 with h9 | h9
            · exact ⟨h9, this.2⟩
            · exact h9.elim
        · intro i hi j hj hne k hki hkj
          obtain ⟨o, v, hm⟩ := a3 i hi
          have h7 := hfit i o v hm
          have h8 := a1 i o v hm
          obtain ⟨o', v', hm'⟩ := a3 j hj
          have h7' := hfit j o' v' hm'
          have h8' := a1 j o' v' hm'
          cases o with
          | none => simp only at h7; rw [h7.2.2] at hki; exact hki.elim
          | some q =>
            cases o' with
            | none => simp only at h7'; rw [h7'.2.2] at hkj; exact hkj.elim
            | some q' =>
              simp only at h7 h7' h8 h8'
              rw [h7.2.2] at hki
              rw [h7'.2.2] at hkj
              refine hr.dRR q q' ⟨_, h8⟩ ⟨_, h8'⟩ (fun e => ?_) k hki hkj
              subst e
              exact hne (olds_inj ho hm hm')
      have h0 : Rel ⟨w, ok, fun _ => False, fn.ntmps, 0, fun _ => undef⟩ ⟨fun _ => 0, fun _ => .bool, fun _ => .slice none 0 0, fun _ => .bool, fun _ _ => False⟩ (enterArgs as 0) { tmps := vs.toArray ++ Array.replicate (fn.ntmps - vs.toArray.size) undef, defers := [] } w := by
        have hBn : ∀ b, get (enterArgs as 0) (kB b) = none := fun b => (enter_other (fun j e => kT_kB j b e.symm)).1
        have hRn : ∀ b, get (enterArgs as 0) (kR b) = none := fun b => (enter_other (fun j e => kT_kR j b e.symm)).1
        have hRd : ∀ b, dom (enterArgs as 0) (kR b) = false := fun b => (enter_other (fun j e => kT_kR j b e.symm)).2
        refine ⟨?_, fun i hi => absurd hi (Nat.not_lt_zero i), rfl, rfl, rfl, rfl, Nat.le_refl _, fun _ _ _ => rfl, ?_, ?_, ?_, ?_, ?_, ?_, ?_, ?_, ?_⟩
        · simp [hlen]; omega
        · intro i v hv
          obtain ⟨av, u, e1, e2, _, e3⟩ := enter_get hav hv
          refine ⟨_, e1, ?_⟩
          have : (vs.toArray ++ Array.replicate (fn.ntmps - vs.toArray.size) undef).getD i undef = u := by
            have hi := (List.getElem?_eq_some_iff.1 e3).1
            rw [Nat.sub_zero] at e3 hi
            rw [Array.getD_eq_getD_getElem?, Array.getElem?_append_left (by simpa using hi)]
            simp [e3]
          show TVR _ _ _ _ _ ((vs.toArray ++ Array.replicate (fn.ntmps - vs.toArray.size) undef).getD i undef)
          rw [this]
          refine enter_TV (fun k hk _ => ⟨.inl hk, ?_⟩) e2
          rintro (⟨b, ⟨v, hb⟩, _⟩ | ⟨q, ⟨v, hq⟩, _⟩)
          · rw [hBn] at hb; cases hb
          · rw [hRn] at hq; cases hq
        · intro b v hv; rw [hBn] at hv; cases hv
        · intro b v hv; rw [hRn] at hv; cases hv
        · intro q hq; rw [hRd] at hq; cases hq
        · rintro b ⟨v, hv⟩; rw [hBn] at hv; cases hv
        · rintro b ⟨v, hv⟩; rw [hRn] at hv; cases hv
        · rintro b b' ⟨v, hv⟩; rw [hBn] at hv; cases hv
        · rintro b b' ⟨v, hv⟩; rw [hBn] at hv; cases hv
        · rintro b b' ⟨v, hv⟩; rw [hRn] at hv; cases hv
      refine run_ok (F := ⟨w, ok, fun _ => False, fn.ntmps, 0, fun _ => undef⟩) hT hO hm c 0 _ _ _ _ _ _ _ w hc h h0 (fun g st a w' hk hr => hend g st a w' hk hr) (fun id g st a w' hk hr => by cases hk) (fun g st a w' hk hr => hend g st a w' hk hr)
end
end Go.Proofs.YtcmjbplnjjdcdaaGreat.Ref

namespace Go.Proofs.YtcmjbplnjjdcdaaGreat.Ref
open Go.RowKit Go.Proofs.YtcmjbplnjjdcdaaGreatW.PrintWords Go.Proofs.YtcmjbplnjjdcdaaGreatW.PrintLast

/-- The loop of block tg, with what stands around it; ms: how many rounds the loops around it have left. -/
noncomputable def findL (T : Tab) (G : Sigs) (O : Orac) (A : Ann) (n : Nat) (ms : Nat → Nat) (tg : Nat) : Code → Nat → KSt → (Nat → KSt) → KSt → Option (Nat → KSt)
  | .seq a b, lp, nrm, brk, ret => match findL T G O A n ms tg a lp (fun st => run T G O A n b lp nrm brk ret st) brk ret with
    | some r => some r
    | none => findL T G O A n ms tg b lp nrm brk ret
  | .cond _ a b, lp, nrm, brk, ret => match findL T G O A n ms tg a lp nrm brk ret with
    | some r => some r
    | none => findL T G O A n ms tg b lp nrm brk ret
  | .block id c, _, nrm, brk, ret => findL T G O A n ms tg c id nrm (fun id' st => cond (Nat.beq id' id) (nrm st) (brk id' st)) ret
  | .loop c, lp, _, brk, ret => cond (Nat.beq lp tg)
      (some (Nat.rec (motive := fun _ => KSt) (fun _ => none) (fun _ ih st => run T G O A n c lp (fun s => (norm (A lp)).runK s [] fun s' _ => ih s') brk ret st)))
      (findL T G O A n ms tg c lp (fun s => (norm (A lp)).runK s [] fun s' _ =>
        Nat.rec (motive := fun _ => KSt) (fun _ => none) (fun _ ih st => run T G O A n c lp (fun s => (norm (A lp)).runK s [] fun s' _ => ih s') brk ret st) (ms lp) s') brk ret)
  | _, _, _, _, _ => none
noncomputable def loopOf (T : Tab) (G : Sigs) (O : Orac) (A : Ann) (fn : Func) (sg : Sig) (n : Nat) (ms : Nat → Nat) (tg : Nat) : Nat → KSt :=
  match fn.body with
  | some c => match findL T G O A n ms tg c 0 (retK T fn sg) (fun _ _ => none) (retK T fn sg) with
    | some L => L
    | none => fun _ _ => none
  | none => fun _ _ => none

end Go.Proofs.YtcmjbplnjjdcdaaGreat.Ref

namespace Go.Proofs.YtcmjbplnjjdcdaaGreat.Ref
open Go.RowKit Go.Proofs.YtcmjbplnjjdcdaaGreatW.PrintWords Go.Proofs.YtcmjbplnjjdcdaaGreatW.PrintLast

def AllTy (P : Program) : List (Nat × Ty) → Prop
  | [] => True
  | p :: r => TyF P p.1 p.2 ∧ AllTy P r
def AllFp (P : Program) (T : Tab) : List (Nat × Nat × List Bool) → Prop
  | [] => True
  | (S, f, p) :: r => (∀ t, T.ty S = some t → FpF P S f t p) ∧ AllFp P T r
/-- The equality of two numbers side by side, at the types that are such. -/
def eq2F (P : Program) (n : Nat) : Prop := ∀ (x y x' y' : Int) (X Y : Operand) (w : World),
    (do eqGuard .eql n X Y (.agg #[.int .i64 x, .int .i64 y]) (.agg #[.int .i64 x', .int .i64 y']); binOp .eql n (.agg #[.int .i64 x, .int .i64 y]) (.agg #[.int .i64 x', .int .i64 y']) : Sem Value).run P w = .ok (.bool (x == x' && y == y')) w ∧
    (do eqGuard .neq n X Y (.agg #[.int .i64 x, .int .i64 y]) (.agg #[.int .i64 x', .int .i64 y']); binOp .neq n (.agg #[.int .i64 x, .int .i64 y]) (.agg #[.int .i64 x', .int .i64 y']) : Sem Value).run P w = .ok (.bool (!(x == x' && y == y'))) w
def AllPl (P : Program) : List (Nat × Ty) → Prop
  | [] => True
  | (n, .pair _ _) :: r => PlF P n ∧ AllPl P r
  | _ :: r => AllPl P r
def AllEq2 (P : Program) : List (Nat × Ty) → Prop
  | [] => True
  | (n, .pair (.int .i64) (.int .i64)) :: r => eq2F P n ∧ AllEq2 P r
  | _ :: r => AllEq2 P r
theorem lookTy_mem {l : List (Nat × Ty)} {n : Nat} {t : Ty} (h : lookTy l n = some t) : (n, t) ∈ l := by
  induction l with
  | nil => cases h
  | cons p l ih =>
    obtain ⟨k, t'⟩ := p
    by_cases e : k = n
    · subst e
      simp only [lookTy, Nat.beq_refl] at h
      injection h with h
      rw [h]
      exact List.mem_cons_self ..
    · have : Nat.beq k n = false := by
        cases e' : Nat.beq k n with
        | false => rfl
        | true => exact absurd (Nat.eq_of_beq_eq_true e') e
      simp only [lookTy, this] at h
      exact List.mem_cons_of_mem _ (ih h)
theorem lookFp_mem {l : List (Nat × Nat × List Bool)} {n f : Nat} {p : List Bool} (h : lookFp l n f = some p) : (n, f, p) ∈ l := by
  induction l with
  | nil => cases h
  | cons q l ih =>
    obtain ⟨k, g, p'⟩ := q
    unfold lookFp at h
    cases e : Nat.beq k n && Nat.beq g f with
    | true =>
      rw [e] at h
      injection h with h
      rw [Bool.and_eq_true] at e
      rw [Nat.eq_of_beq_eq_true e.1, Nat.eq_of_beq_eq_true e.2, h]
      exact List.mem_cons_self ..
    | false =>
      rw [e] at h
      exact List.mem_cons_of_mem _ (ih h)
theorem allTy_of {P : Program} : ∀ {l : List (Nat × Ty)}, AllTy P l → ∀ n t, (n, t) ∈ l → TyF P n t
  | [], _, _, _, h => (List.not_mem_nil h).elim
  | p :: l, ha, n, t, h => by
    rcases List.mem_cons.1 h with e | h
    · subst e; exact ha.1
    · exact allTy_of ha.2 n t h
theorem allFp_of {P : Program} {T : Tab} : ∀ {l : List (Nat × Nat × List Bool)}, AllFp P T l → ∀ S f p, (S, f, p) ∈ l → ∀ t, T.ty S = some t → FpF P S f t p
  | [], _, _, _, _, h => (List.not_mem_nil h).elim
  | (S', f', p') :: l, ha, S, f, p, h => by
    rcases List.mem_cons.1 h with e | h
    · injection e with e1 e2
      injection e2 with e2 e3
      subst e1
      subst e2
      subst e3
      exact ha.1
    · exact allFp_of ha.2 S f p h
theorem allPl_of {P : Program} : ∀ {l : List (Nat × Ty)}, AllPl P l → ∀ n a b, (n, Ty.pair a b) ∈ l → PlF P n
  | [], _, _, _, _, h => (List.not_mem_nil h).elim
  | (n', t') :: l, ha, n, a, b, h0 => by
    rcases List.mem_cons.1 h0 with e | h2
    · injection e with e1 e2
      subst e1
      subst e2
      exact ha.1
    · cases t' with
      | pair _ _ => exact allPl_of ha.2 n a b h2
      | _ => exact allPl_of (l := l) ha n a b h2
theorem allEq2_of {P : Program} : ∀ {l : List (Nat × Ty)}, AllEq2 P l → ∀ n, (n, Ty.pair (.int .i64) (.int .i64)) ∈ l → eq2F P n
  | [], _, _, h => (List.not_mem_nil h).elim
  | (n', t') :: l, ha, n, h => by
    rcases List.mem_cons.1 h with e | h
    · injection e with e1 e2
      subst e1
      subst e2
      exact ha.1
    · refine allEq2_of (l := l) ?_ n h
      unfold AllEq2 at ha
      split at ha
      · rename_i e; cases e
      · rename_i e; injection e with e1 e2; subst e2; exact ha.2
      · rename_i e; injection e with e1 e2; subst e2; exact ha
theorem tabOk_of {P : Program} {T : Tab} (h1 : AllTy P T.tys) (h2 : AllFp P T T.fps) (h3 : P.follows .mixedOrders = true) (h4 : AllPl P T.tys) (h5 : AllEq2 P T.tys) : TabOk P T :=
  ⟨fun n t h => allTy_of h1 n t (lookTy_mem h), fun S f p t h ht => allFp_of h2 S f p (lookFp_mem h) t ht, h3, fun n a b h => allPl_of h4 n a b (lookTy_mem h), fun n h => allEq2_of h5 n (lookTy_mem h)⟩
def structOf (P : Program) (n : Nat) : Option (Array Field) := match P.underlying n with
  | some (.struct fs) => some fs
  | _ => none
theorem structOf_spec {P : Program} {n : Nat} {fs : Array Field} (h : structOf P n = some fs) : P.underlying n = some (.struct fs) := by
  unfold structOf at h
  split at h
  · rename_i fs' hu
    injection h with h
    rw [hu, h]
  · cases h
theorem und_pair {P : Program} {n : Nat} {a b : Ty} (h : (structOf P n).isSome = true) : UndF P n (.pair a b) := by
  obtain ⟨fs, hfs⟩ := Option.isSome_iff_exists.1 h
  exact ⟨fs, structOf_spec hfs⟩
def fpB (P : Program) (S f : Nat) (t : Ty) (p : List Bool) : Bool := match structOf P S with
  | some fs => match fs[f]?, subT t p with
    | some fd, some t' => (Nat.beq fd.offset (offp t p) && (match (P.underlying fd.type).map aggU with
      | some z => z == t'.isPair
      | none => false)) && (match (P.info? fd.type).map (·.size) with
      | some z => Nat.beq z t'.sz
      | none => false)
    | _, _ => false
  | none => false
theorem fpB_ok {P : Program} {S f : Nat} {t : Ty} {p : List Bool} (h : fpB P S f t p = true) : FpF P S f t p := by
  unfold fpB at h
  split at h
  · rename_i fs hfs
    split at h
    · rename_i fd t' h1 h2
      rw [Bool.and_eq_true] at h
      obtain ⟨h3, h4⟩ := h
      rw [Bool.and_eq_true] at h3
      obtain ⟨h3, h5⟩ := h3
      split at h4
      · rename_i z hz
        split at h5
        · rename_i z2 hz2
          exact ⟨fs, fd, t', structOf_spec hfs, h1, Nat.eq_of_beq_eq_true h3, h2, by rw [hz, Nat.eq_of_beq_eq_true h4], by rw [hz2, eq_of_beq h5]⟩
        · cases h5
      · cases h4
    · cases h
  · cases h
theorem fp_at {P : Program} {T : Tab} {S f : Nat} {p : List Bool} {t0 : Ty} (ht : T.ty S = some t0) (h : fpB P S f t0 p = true) : ∀ t, T.ty S = some t → FpF P S f t p := by
  intro t h'
  rw [ht] at h'
  injection h' with h'
  subst h'
  exact fpB_ok h
def plB (P : Program) (S : Nat) : Bool := match structOf P S with
  | some fs => fs.toList.all fun fd => ((P.info? fd.type).map (·.size)).isSome
  | none => false
theorem plB_ok {P : Program} {S : Nat} (h : plB P S = true) : PlF P S := by
  intro fs hfs fd hfd
  have : structOf P S = some fs := by unfold structOf; rw [hfs]
  unfold plB at h
  rw [this] at h
  exact Option.isSome_iff_exists.1 (List.all_eq_true.1 h fd hfd)
end Go.Proofs.YtcmjbplnjjdcdaaGreat.Ref

namespace Go.Proofs.YtcmjbplnjjdcdaaGreat.Ref
open Go.RowKit Go.Proofs.YtcmjbplnjjdcdaaGreatW.PrintWords Go.Proofs.YtcmjbplnjjdcdaaGreatW.PrintLast

def lenT : (t : Ty) → t.den → Prop
  | .slice _ t, xs => lnL (lenT t) xs
  | .pair a b, x => lenT a x.1 ∧ lenT b x.2
  | _, _ => True
mutual
def lenA : AV → Prop
  | .val t x => lenT t x
  | .ref t x => lenT t x
  | .clo _ caps => lenAs caps
  | .nil _ _ => True
  | .lend t x _ => lenT t x
def lenAs : List AV → Prop
  | [] => True
  | a :: r => lenA a ∧ lenAs r
end
section
variable {P : Program} {T : Tab} {G : Sigs} {O : Orac} {A : Ann} {rest : Orac} {sg : Sig} {f : Nat} {w : World} {ok : Nat → Prop}
theorem K_lenT : ∀ {t : Ty} {x : t.den} {cs : List Value}, t.kd.K w x cs → lenT t x
  | .int _, _, _, _ => trivial
  | .bool, _, _, _ => trivial
  | .str, _, _, _ => trivial
  | .pair a b, x, cs, h => by
    obtain ⟨c0, c1, _, h0, h1⟩ := h
    exact ⟨K_lenT h0, K_lenT h1⟩
  | .slice e t, xs, cs, h => by
    obtain ⟨A, c, _, _, hl, hm, hr⟩ := h
    refine ⟨hm, fun x hx => ?_⟩
    have hx : x ∈ (xs : List t.den) := hx
    obtain ⟨j, hj⟩ := List.getElem?_of_mem hx
    have hlt : j < List.length (α := t.den) xs := (List.getElem?_eq_some_iff.1 hj).1
    obtain ⟨ad, _, hr⟩ := hr (by omega)
    obtain ⟨c, _, hk, _⟩ := hr j x hj
    exact K_lenT hk
theorem AVR_len : ∀ {a : AV} {v : Value}, AVR w ok a v → lenA a
  | .val t x, v, h => by
    obtain ⟨cs, _, h⟩ := h
    exact K_lenT (Foot.now h)
  | .ref t x, v, h => by
    obtain ⟨a, cs, _, h⟩ := h
    exact K_lenT (Foot.now h).1
  | .clo f caps, v, h => by
    obtain ⟨vs, _, h⟩ := h
    exact go h
  | .nil _ _, v, h => trivial
  | .lend _ _ _, v, h => h.elim
  where go : ∀ {as : List AV} {vs : List Value}, AVRs w ok as vs → lenAs as
  | [], vs, h => trivial
  | a :: as, vs, h => by
    obtain ⟨v, vs', _, h1, h2⟩ := h
    exact ⟨AVR_len h1, go h2⟩
/-- What is said needs to be shown for rows of a possible length only. -/
theorem said_len (hT : TabOk P T) (hO : OracOk P G O) (hm : P.follows .mixedOrders = true) {fn : Func} {as : List AV} {r : Ret} (hf : P.funcs[f]? = some fn) (hname : (fn.name == "runtime.NumGoroutine") = false)
    (hc : (match fn.body with | some c => codeOk 0 fn.ntmps c | none => false) = true) (h : lenAs as → ∃ n, absF T G O A fn sg n as = some r) : Said P sg f as r := by
  have hb : fn.body.isNone = false := by
    cases hb : fn.body with
    | none => rw [hb] at hc; cases hc
    | some c => rfl
  refine ⟨⟨fn, hf, hname, hb⟩, fun w ok vs hav => ?_⟩
  obtain ⟨n, hn⟩ := h (AVR_len.go hav)
  exact (said_of hT hO hm hf hname hc hn).2 w ok vs hav

/-- A function that hands back a number and leaves the memory as it is. -/
theorem post_int {n : Int} : Post [(.int .i64, .no)] w ok [⟨.int .i64, n⟩] (.int .i64 n) w := by
  refine ⟨⟨fun _ => 0, fun _ => .bool, fun _ => .slice none 0 0, fun _ => .bool, fun _ _ => False⟩, [.int .i64 n], Below.refl _ _, rfl, ?_, fun j hj => (by cases hj), fun i hi => (by cases hi)⟩
  refine ⟨rfl, [.int .i64 n], [], rfl, VR_no.2 (fun W hW => rfl), trivial, rfl⟩
theorem said_int {as : List AV} {n : Int} {fn : Func} (hf : P.funcs[f]? = some fn) (hname : (fn.name == "runtime.NumGoroutine") = false) (hb : fn.body.isNone = false)
    (h : ∀ w ok vs, AVRs w ok as vs → Calls P f vs.toArray w fun e w' => e = .returned (.int .i64 n) ∧ w' = w) : Said P [(.int .i64, .no)] f as [⟨.int .i64, n⟩] := by
  refine ⟨⟨fn, hf, hname, hb⟩, fun w ok vs hav => (h w ok vs hav).mono ?_⟩
  rintro e w' ⟨rfl, rfl⟩
  exact post_int
theorem avr_str {s : ByteArray} {v : Value} (h : AVR w ok (.val .str s) v) : v = .string s := by
  obtain ⟨cs, e, h⟩ := h
  have : cs = [.string s] := Foot.now h
  rw [e, this]; rfl

inductive AP where
  | val (t : Ty)
  | ref (t : Ty)
  | clo (f : Nat) (caps : List Ty)
  | nil (e : Nat) (t : Ty)
  | lend (t : Ty) (m : Mk)
def Refs : List Ty → Type
  | [] => Unit
  | t :: r => t.den × Refs r
def AP.D : AP → Type
  | .val t => t.den
  | .ref t => t.den
  | .clo _ caps => Refs caps
  | .nil _ _ => Unit
  | .lend t _ => t.den
def APs : List AP → Type
  | [] => Unit
  | p :: r => p.D × APs r
def refsOf : (ts : List Ty) → Refs ts → List AV
  | [], _ => []
  | t :: r, x => .ref t x.1 :: refsOf r x.2
def avOf : (p : AP) → p.D → AV
  | .val t, x => .val t x
  | .ref t, x => .ref t x
  | .clo f caps, x => .clo f (refsOf caps x)
  | .nil e t, _ => .nil e t
  | .lend t m, x => .lend t x m
def avsOf : (ps : List AP) → APs ps → List AV
  | [], _ => []
  | p :: r, x => avOf p x.1 :: avsOf r x.2
def mkEq : Mk → Mk → Bool
  | .no, .no => true
  | .nil, .nil => true
  | .own i, .own j => Nat.beq i j
  | .pair a b, .pair c d => mkEq a c && mkEq b d
  | _, _ => false
theorem mkEq_eq : ∀ {a b : Mk}, mkEq a b = true → a = b
  | .no, .no, _ => rfl
  | .nil, .nil, _ => rfl
  | .own i, .own j, h => by rw [Nat.eq_of_beq_eq_true h]
  | .pair a b, .pair c d, h => by
    have h := (Bool.and_eq_true _ _).mp h
    rw [mkEq_eq h.1, mkEq_eq h.2]
def deRefs : (ts : List Ty) → List AV → Option (Refs ts)
  | [], [] => some ()
  | t :: r, .ref t' x :: l => match Ty.cast t x with
    | some y => match deRefs r l with
      | some ys => some (y, ys)
      | none => none
    | none => none
  | _, _ => none
def deAV : (p : AP) → AV → Option p.D
  | .val t, .val t' x => Ty.cast t x
  | .val t, .nil e t' => Ty.cast t (t := .slice e t') []
  | .ref t, .ref t' x => Ty.cast t x
  | .clo f caps, .clo g l => match Nat.beq g f with
    | true => deRefs caps l
    | false => none
  | .nil e t, .nil e' t' => match Nat.beq e e' && t.beq t' with
    | true => some ()
    | false => none
  | .lend t m, .lend t' x m' => match mkEq m' m with
    | true => Ty.cast t x
    | false => none
  | _, _ => none
def deAVs : (ps : List AP) → List AV → Option (APs ps)
  | [], [] => some ()
  | p :: r, a :: l => match deAV p a with
    | some y => match deAVs r l with
      | some ys => some (y, ys)
      | none => none
    | none => none
  | _, _ => none
theorem deRefs_ok : ∀ {ts : List Ty} {l : List AV} {x : Refs ts}, deRefs ts l = some x → l = refsOf ts x
  | [], [], _, _ => rfl
  | [], _ :: _, _, h => by simp [deRefs] at h
  | t :: r, [], _, h => by simp [deRefs] at h
  | t :: r, .val _ _ :: l, _, h => by simp [deRefs] at h
  | t :: r, .clo _ _ :: l, _, h => by simp [deRefs] at h
  | t :: r, .nil _ _ :: l, _, h => by simp [deRefs] at h
  | t :: r, .lend _ _ _ :: l, _, h => by simp [deRefs] at h
  | t :: r, .ref t' y :: l, x, h => by
    unfold deRefs at h
    split at h
    · rename_i z hz
      split at h
      · rename_i zs hzs
        injection h with h
        subst h
        obtain ⟨e, hx⟩ := cast_some hz
        subst e
        cases hx
        rw [deRefs_ok hzs]
        rfl
      · cases h
    · cases h
theorem nil_FK {e : Nat} {t : Ty} : Kd.FK (Ty.slice e t).kd w ok ([] : List t.den) [.slice none 0 0] := slice_FK (t := t) rfl (Nat.le_refl 0) (fun W _ => ⟨rfl, by simp, fun h => absurd h (Nat.lt_irrefl 0)⟩)
/-- What is meant by a value is what the pattern says. -/
theorem deAV_ok {p : AP} {a : AV} {x : p.D} (h : deAV p a = some x) : a = avOf p x ∨ (∀ {w : World} {ok : Nat → Prop} {v : Value}, AVR w ok a v → AVR w ok (avOf p x) v) ∧ ∃ e t, a = .nil e t := by
  cases p with
  | val t =>
    cases a with
    | val t' y =>
      obtain ⟨e, hx⟩ := cast_some (show Ty.cast t y = some x from h)
      subst e
      cases hx
      exact .inl rfl
    | nil e t' =>
      obtain ⟨e, hx⟩ := cast_some (show Ty.cast t (t := .slice e t') [] = some x from h)
      subst e
      cases hx
      refine .inr ⟨fun {w ok v} hv => ?_, _, _, rfl⟩
      have hv : v = .slice none 0 0 := hv
      rw [hv]
      exact ⟨[.slice none 0 0], rfl, nil_FK⟩
    | ref t' y => cases h
    | clo f l => cases h
    | lend t' y m => cases h
  | ref t =>
    cases a with
    | ref t' y =>
      obtain ⟨e, hx⟩ := cast_some (show Ty.cast t y = some x from h)
      subst e
      cases hx
      exact .inl rfl
    | val t' y => cases h
    | clo f l => cases h
    | nil e t' => cases h
    | lend t' y m => cases h
  | clo f caps =>
    cases a with
    | val t' y => cases h
    | ref t' y => cases h
    | nil e t' => cases h
    | lend t' y m => cases h
    | clo g l =>
      have h1 : (match Nat.beq g f with
        | true => deRefs caps l
        | false => none) = some x := h
      cases hg : Nat.beq g f with
      | false => rw [hg] at h1; cases h1
      | true =>
        rw [hg] at h1
        have h2 : deRefs caps l = some x := h1
        have := Nat.eq_of_beq_eq_true hg
        subst this
        rw [deRefs_ok h2]
        exact .inl rfl
  | nil e t =>
    cases a with
    | val t' y => cases h
    | ref t' y => cases h
    | clo g l => cases h
    | lend t' y m => cases h
    | nil e' t' =>
      have h1 : (match Nat.beq e e' && t.beq t' with
        | true => some ()
        | false => none) = some x := h
      cases hg : Nat.beq e e' && t.beq t' with
      | false => rw [hg] at h1; cases h1
      | true =>
        have hg := (Bool.and_eq_true _ _).mp hg
        rw [Nat.eq_of_beq_eq_true hg.1, Ty.eq_of_beq hg.2]
        exact .inl rfl
  | lend t m =>
    cases a with
    | val t' y => cases h
    | ref t' y => cases h
    | clo g l => cases h
    | nil e' t' => cases h
    | lend t' y m' =>
      have h1 : (match mkEq m' m with
        | true => Ty.cast t y
        | false => none) = some x := h
      cases hg : mkEq m' m with
      | false => rw [hg] at h1; cases h1
      | true =>
        rw [hg] at h1
        obtain ⟨e, hx⟩ := cast_some (show Ty.cast t y = some x from h1)
        subst e
        cases hx
        rw [mkEq_eq hg]
        exact .inl rfl
theorem deAVs_ok : ∀ (ps : List AP) (l : List AV) (x : APs ps), deAVs ps l = some x → ∀ {w : World} {ok : Nat → Prop} {vs : List Value}, AVRs w ok l vs → AVRs w ok (avsOf ps x) vs
  | [], [], _, _ => fun h => h
  | [], _ :: _, _, h => by cases h
  | p :: r, [], _, h => by cases h
  | p :: r, a :: l, x, h => by
    have h1 : (match deAV p a with
      | some y => match deAVs r l with
        | some ys => some (y, ys)
        | none => none
      | none => none) = some x := h
    cases hz : deAV p a with
    | none => rw [hz] at h1; cases h1
    | some z =>
      rw [hz] at h1
      cases hzs : deAVs r l with
      | none => rw [hzs] at h1; cases h1
      | some zs =>
        rw [hzs] at h1
        have h2 : some (z, zs) = some x := h1
        injection h2 with h2
        subst h2
        intro hv
        obtain ⟨v, vs', e, q1, q2⟩ := hv
        refine ⟨v, vs', e, ?_, deAVs_ok r l zs hzs q2⟩
        rcases deAV_ok hz with h3 | h3
        · rw [h3] at q1; exact q1
        · exact h3.1 q1
theorem deAVs_g {gm : Gh} : ∀ (ps : List AP) (l : List AV) (x : APs ps), deAVs ps l = some x → ∀ (w : World) (ok : Nat → Prop) (vs : List Value), AVRgs gm w ok l vs → avIds l = avIds (avsOf ps x) ∧ AVRgs gm w ok (avsOf ps x) vs
  | [], [], _, _ => fun _ _ _ h => ⟨rfl, h⟩
  | [], _ :: _, _, h => by cases h
  | p :: r, [], _, h => by cases h
  | p :: r, a :: l, x, h => by
    have h1 : (match deAV p a with
      | some y => match deAVs r l with
        | some ys => some (y, ys)
        | none => none
      | none => none) = some x := h
    cases hz : deAV p a with
    | none => rw [hz] at h1; cases h1
    | some z =>
      rw [hz] at h1
      cases hzs : deAVs r l with
      | none => rw [hzs] at h1; cases h1
      | some zs =>
        rw [hzs] at h1
        have h2 : some (z, zs) = some x := h1
        injection h2 with h2
        subst h2
        intro w ok vs hv
        obtain ⟨v, vs', e, q1, q2⟩ := hv
        obtain ⟨h4, h5⟩ := deAVs_g (gm := gm) r l zs hzs _ _ _ q2
        rcases deAV_ok hz with h3 | ⟨h3, e', t', h6⟩
        · subst h3
          refine ⟨?_, v, vs', e, q1, h5⟩
          cases p <;> first | exact h4 | (show idsT _ _ ++ avIds l = idsT _ _ ++ avIds (avsOf r zs); rw [h4])
        · subst h6
          have h7 : ∀ w : World, AVR w (fun _ => True) (avOf p z) (.slice none 0 0) := fun w => (by
            obtain h3 | ⟨h3, _⟩ := deAV_ok hz
            · rw [← h3]; rfl
            · exact h3 rfl)
          refine ⟨?_, v, vs', e, ?_, h5⟩
          · cases p with
            | lend t m => exact (h7 w).elim
            | val t => exact h4
            | ref t => exact h4
            | clo f c => exact h4
            | nil e t => exact h4
          · have q1 := h3 (show AVR w ok (.nil e' t') v from q1)
            cases p with
            | lend t m => exact q1.elim
            | val t => exact q1
            | ref t => exact q1
            | clo f c => exact q1
            | nil e t => exact q1
theorem Said.of_args {as as' : List AV} {r : Ret} (h : Said P sg f as r) (ha : ∀ {w : World} {ok : Nat → Prop} {vs : List Value}, AVRs w ok as' vs → AVRs w ok as vs) : Said P sg f as' r :=
  ⟨h.1, fun w ok vs hv => h.2 w ok vs (ha hv)⟩
def nilO : Orac := fun _ _ _ => none
def orcX (f : Nat) (ps : List AP) (g : APs ps → Bool) (F : APs ps → Ret) (rest : Orac) : Orac := fun n av k => cond (Nat.beq n f) (match deAVs ps av with
  | some x => cond (g x) (k (F x)) none
  | none => rest n av k) (rest n av k)
theorem nilO_ok : OracOk P G nilO := fun _ _ _ _ h => by cases h
def noLend : List AP → Bool
  | .lend _ _ :: _ => false
  | _ => true
theorem noLend_ok {ps : List AP} (hn : noLend ps = true) {t : Ty} {u : t.den} {m : Mk} {l : List AV} {x : APs ps} (h : deAVs ps (.lend t u m :: l) = some x) : False := by
  cases ps with
  | nil => cases h
  | cons p r =>
    have h1 : (match deAV p (.lend t u m) with
      | some y => match deAVs r l with
        | some ys => some (y, ys)
        | none => none
      | none => none) = some x := h
    cases p with
    | lend t' m' => cases hn
    | val t' => cases h1
    | ref t' => cases h1
    | clo f c => cases h1
    | nil e t' => cases h1
theorem orcX_ok {ps : List AP} {g : APs ps → Bool} {F : APs ps → Ret} (hG : G f = some sg) (hnl : noLend ps = true) (h : ∀ x, g x = true → Said P sg f (avsOf ps x) (F x)) (hr : OracOk P G rest) : OracOk P G (orcX f ps g F rest) := by
  intro n av K r he
  unfold orcX at he
  cases hn : Nat.beq n f with
  | false => rw [hn] at he; exact hr n av K r he
  | true =>
    rw [hn] at he
    simp only [cond_true] at he
    split at he
    · rename_i x hx
      have := Nat.eq_of_beq_eq_true hn
      subst this
      cases hg : g x with
      | false => rw [hg] at he; cases he
      | true =>
        rw [hg] at he
        refine ⟨F x, fun sg' hs => ?_, he⟩
        rw [hG] at hs
        injection hs with hs
        subst hs
        exact ⟨(h x hg).of_args (deAVs_ok ps av x hx), fun t u m k _ _ e => by subst e; exact (noLend_ok hnl hx).elim, fun t u l e => by subst e; exact (noLend_ok hnl hx).elim, fun t u l e => by subst e; exact (noLend_ok hnl hx).elim, fun l e => by subst e; exact (noLend_ok hnl hx).elim, fun t u m _ _ e => by subst e; exact (noLend_ok hnl hx).elim⟩
    · exact hr n av K r he
end
end Go.Proofs.YtcmjbplnjjdcdaaGreat.Ref

namespace Go.Proofs.YtcmjbplnjjdcdaaGreat.Ref
open Go.RowKit Go.Proofs.YtcmjbplnjjdcdaaGreatW.PrintWords Go.Proofs.YtcmjbplnjjdcdaaGreatW.PrintLast

section
variable {P : Program} {T : Tab} {G : Sigs} {O : Orac} {A : Ann} {F : Fx} {g : Gh} {st : St} {a : Act} {w w' : World} {r : Ret} {n : Nat} {D : Nat → Bool} {ok : Nat → Prop} {sg : Sig} {f : Nat} {rest : Orac}
theorem rid_zero (j : Nat) : rid 0 j = j := by unfold rid; omega
theorem lenT_own : ∀ {t : Ty} {u : t.den} {m : Mk}, allOwn t m = true → OwnR g w t u m → lenT t u
  | .int _, _, _, _, _ => trivial
  | .bool, _, _, _, _ => trivial
  | .str, _, _, _, _ => trivial
  | .slice e t, u, .own j, _, h => by
    obtain ⟨A, c, e3, hl, hC⟩ := Kd.S_reads h.2
    exact K_lenT (t := .slice e t) (w := w) (cs := [g.ρ j]) ⟨A, c, by rw [e3], hl, hC⟩
  | .slice _ _, u, .no, h, _ => by cases h
  | .slice _ _, u, .pair _ _, h, _ => by cases h
  | .slice _ _, u, .nil, h, _ => by cases h
  | .pair a b, u, .pair p q, h, ho => by
    simp only [allOwn, Bool.and_eq_true] at h
    exact ⟨lenT_own h.1 ho.1, lenT_own h.2 ho.2⟩
  | .pair a b, u, .no, h, _ => by cases h
  | .pair a b, u, .nil, h, _ => by cases h
  | .pair a b, u, .own _, h, _ => by cases h
/-- The function stands in the program, with a body. -/
def Stands (P : Program) (f : Nat) : Prop := ∃ fn, P.funcs[f]? = some fn ∧ (fn.name == "runtime.NumGoroutine") = false ∧ fn.body.isNone = false
theorem deAVs_cons {p : AP} {r : List AP} {a : AV} {l : List AV} {x : APs (p :: r)} (h : deAVs (p :: r) (a :: l) = some x) : ∃ y ys, deAV p a = some y ∧ deAVs r l = some ys ∧ x = (y, ys) := by
  have h1 : (match deAV p a with
    | some y => match deAVs r l with
      | some ys => some (y, ys)
      | none => none
    | none => none) = some x := h
  cases hz : deAV p a with
  | none => rw [hz] at h1; cases h1
  | some z =>
    rw [hz] at h1
    cases hzs : deAVs r l with
    | none => rw [hzs] at h1; cases h1
    | some zs =>
      rw [hzs] at h1
      have h2 : some (z, zs) = some x := h1
      injection h2 with h2
      exact ⟨z, zs, rfl, rfl, h2.symm⟩
theorem lendMark {t t' : Ty} {m m' : Mk} {u : t'.den} {r : List AP} {l : List AV} {x : APs (.lend t m :: r)} (h : deAVs (.lend t m :: r) (.lend t' u m' :: l) = some x) : m' = m := by
  obtain ⟨z, ys, hz, _, _⟩ := deAVs_cons h
  have h1 : (match mkEq m' m with
    | true => Ty.cast t u
    | false => none) = some z := hz
  cases hg : mkEq m' m with
  | true => exact mkEq_eq hg
  | false => rw [hg] at h1; cases h1
end
end Go.Proofs.YtcmjbplnjjdcdaaGreat.Ref

namespace Go.Proofs.YtcmjbplnjjdcdaaGreat.Ref
open Go.RowKit Go.Proofs.YtcmjbplnjjdcdaaGreatW.PrintWords Go.Proofs.YtcmjbplnjjdcdaaGreatW.PrintLast

def enterG : AV → TV
  | .lend t u m => .v t u (m.shift 0)
  | a => enterTV a
def enterGs : List AV → Nat → St
  | [], _ => []
  | a :: r, i => (kT i, some (.tv (enterG a))) :: enterGs r (i + 1)
def rowsG : List AV → Wr
  | .lend t u m :: r => takeRows t u m 0 ++ rowsG r
  | _ :: r => rowsG r
  | [] => []
def ptrSt (t : Ty) (x : t.den) (as : List AV) : St := (kT 0, some (.tv (.box 0 []))) :: (kB 0, some (.box t x .no)) :: (enterGs as 1 ++ rowsG as)
def readB (t : Ty) (b : Nat) (K : Dv → Pg Ret) : Pg Ret := .rd (kB b) fun
  | .box t' x' m' => .chk (t'.beq t && (idsT t' m').isEmpty) ((full t' x' m').bind fun y => K ⟨t', y⟩)
  | _ => .fail
def isBox0 : Val → Bool
  | .tv (.box 0 []) => true
  | _ => false
def retPB (T : Tab) (fn : Func) (sg : Sig) (t : Ty) : Pg Ret := (retAll T sg fn.results.toList).bind fun (vs, R, l) => .chk (nodup (news R) && nodup (olds R) && !(meets l (olds R))) (.rd (kT 0) fun u => .chk (isBox0 u) (readB t 0 fun y => .ret (y :: vs)))
def retKB (T : Tab) (fn : Func) (sg : Sig) (t : Ty) : KSt := fun st => (retPB T fn sg t).runK st [] fun r _ => some r
noncomputable def absFB (T : Tab) (G : Sigs) (O : Orac) (A : Ann) (fn : Func) (sg : Sig) (K : Nat) (t : Ty) (x : t.den) (as : List AV) : Option Ret :=
  match fn.body with
  | some c => cond (Nat.ble (as.length + 1) fn.ntmps) (run T G O A K c 0 (retKB T fn sg t) (fun _ _ => none) (retKB T fn sg t) (ptrSt t x as)) none
  | none => none
noncomputable def loopOfB (T : Tab) (G : Sigs) (O : Orac) (A : Ann) (fn : Func) (sg : Sig) (t : Ty) (n : Nat) (ms : Nat → Nat) (tg : Nat) : Nat → KSt :=
  match fn.body with
  | some c => match findL T G O A n ms tg c 0 (retKB T fn sg t) (fun _ _ => none) (retKB T fn sg t) with
    | some L => L
    | none => fun _ _ => none
  | none => fun _ _ => none
/-- A new variable's pointer is handed back. -/
def retPN (fn : Func) (t : Ty) : Pg Ret := match fn.results.toList with
  | [.tmp s] => .rd (kT s) fun
    | .tv (.box b []) => readB t b fun y => .ret [y]
    | _ => .fail
  | _ => .fail
def retKN (fn : Func) (t : Ty) : KSt := fun st => (retPN fn t).runK st [] fun r _ => some r
noncomputable def absFN (T : Tab) (G : Sigs) (O : Orac) (A : Ann) (fn : Func) (K : Nat) (t : Ty) (as : List AV) : Option Ret :=
  match fn.body with
  | some c => cond (Nat.ble as.length fn.ntmps) (run T G O A K c 0 (retKN fn t) (fun _ _ => none) (retKN fn t) (enterArgs as 0)) none
  | none => none
noncomputable def loopOfN (T : Tab) (G : Sigs) (O : Orac) (A : Ann) (fn : Func) (t : Ty) (n : Nat) (ms : Nat → Nat) (tg : Nat) : Nat → KSt :=
  match fn.body with
  | some c => match findL T G O A n ms tg c 0 (retKN fn t) (fun _ _ => none) (retKN fn t) with
    | some L => L
    | none => fun _ _ => none
  | none => fun _ _ => none

section
variable {P : Program} {T : Tab} {G : Sigs} {O : Orac} {A : Ann} {F : Fx} {g : Gh} {st : St} {a : Act} {w w' : World} {r : Ret} {n : Nat} {D : Nat → Bool} {ok : Nat → Prop} {sg : Sig} {f : Nat} {rest : Orac}
theorem readB_spec {t : Ty} {b : Nat} {K : Dv → Pg Ret} {l : List Nat} (h : Rel F g st a w) (hr : (readB t b K).run st = some (r, l)) :
    ∃ (y : t.den) (l' : List Nat) (cs : List Value) (ty : TypeId), (K ⟨t, y⟩).run st = some (r, l') ∧ Alive st (kB b) ∧ w.heap[g.β b]? = some (.cells cs.toArray ty (0, 0)) ∧ Kd.FK t.kd w (F.ok g st) y cs := by
  obtain ⟨u, l1, hb, h2, _⟩ := run_rd hr
  split at h2
  · rename_i t' x' m'
    obtain ⟨hc, h3⟩ := run_chk h2
    obtain ⟨y, l3, l4, h4, h5, _⟩ := run_bind h3
    rw [Bool.and_eq_true] at hc
    have := Ty.eq_of_beq hc.1
    subst this
    obtain ⟨_, cs, ty, hh, hv⟩ := h.box hb
    have hids : idsT t' m' = [] := by simpa using hc.2
    refine ⟨y, l4, cs, ty, h5, ⟨_, hb⟩, hh, Foot.mono (full_FK h h4 hv) (fun k hk => ?_)⟩
    rcases hk with hk | ⟨q, hq, _⟩
    · exact hk
    · rw [hids] at hq; cases hq
  · exact (run_fail h2).elim
theorem one_get (x : Value) (vs : List Value) (r : Array Value) : ((x :: vs).toArray ++ r).getD 0 undef = x := by
  rw [Array.getD_eq_getD_getElem?, Array.getElem?_append_left (by simp)]
  simp
theorem AVRgs_len {gm : Gh} : ∀ {as : List AV} {vs : List Value}, AVRgs gm w ok as vs → vs.length = as.length
  | [], vs, h => by
    have h : vs = [] := h
    rw [h]; rfl
  | x :: as, vs, h => by
    obtain ⟨u, vs', e, h1, h2⟩ := h
    rw [e, List.length_cons, List.length_cons, AVRgs_len h2]
theorem AVRgs_lenAs {gm : Gh} : ∀ {as : List AV} {vs : List Value}, AVRgs gm w ok as vs → lenAs as
  | [], vs, h => trivial
  | x :: as, vs, h => by
    obtain ⟨u, vs', e, h1, h2⟩ := h
    refine ⟨?_, AVRgs_lenAs h2⟩
    cases x with
    | lend t y m =>
      obtain ⟨hao, cs, _, _, ho⟩ := h1
      exact lenT_own hao ho
    | val t y => exact AVR_len h1
    | ref t y => exact AVR_len h1
    | clo f c => exact AVR_len h1
    | nil e' t => exact trivial
theorem rowsG_at {gm : Gh} : ∀ {as : List AV} {vs : List Value}, AVRgs gm w ok as vs → ∀ p ∈ rowsG as, ∃ j ∈ avIds as, p.1 = kR j ∧ ∃ e t xs, p.2 = some (.row e t xs) ∧ RowR gm w j e t xs
  | [], vs, h, p, hp => (List.not_mem_nil hp).elim
  | x :: as, vs, h, p, hp => by
    obtain ⟨u, vs', e, h1, h2⟩ := h
    cases x with
    | lend t y m =>
      obtain ⟨hao, cs, _, _, ho⟩ := h1
      rcases List.mem_append.1 hp with hp | hp
      · obtain ⟨j, hj, e1, r⟩ := takeRows_get (d := 0) ho p hp
        exact ⟨j, List.mem_append.2 (.inl hj), by rw [e1, rid_zero], r⟩
      · obtain ⟨j, hj, r⟩ := rowsG_at h2 p hp
        exact ⟨j, List.mem_append.2 (.inr hj), r⟩
    | val t y => exact rowsG_at h2 p hp
    | ref t y => exact rowsG_at h2 p hp
    | clo f c => exact rowsG_at h2 p hp
    | nil e' t => exact rowsG_at h2 p hp
theorem rowsG_dom : ∀ {as : List AV}, ∀ j ∈ avIds as, ∃ v, (kR j, v) ∈ rowsG as
  | [], j, hj => (List.not_mem_nil hj).elim
  | .lend t y m :: as, j, hj => by
    rcases List.mem_append.1 hj with hj | hj
    · obtain ⟨v, hv⟩ := takeRows_dom (d := 0) (x := y) j hj
      rw [rid_zero] at hv
      exact ⟨v, List.mem_append.2 (.inl hv)⟩
    · obtain ⟨v, hv⟩ := rowsG_dom (as := as) j hj
      exact ⟨v, List.mem_append.2 (.inr hv)⟩
  | .val _ _ :: as, j, hj => rowsG_dom (as := as) j hj
  | .ref _ _ :: as, j, hj => rowsG_dom (as := as) j hj
  | .clo _ _ :: as, j, hj => rowsG_dom (as := as) j hj
  | .nil _ _ :: as, j, hj => rowsG_dom (as := as) j hj
theorem enterGs_get {gm : Gh} : ∀ {as : List AV} {vs : List Value} {i j : Nat} {v : Val}, AVRgs gm w ok as vs → get (enterGs as i) (kT j) = some v → ∃ av u, v = .tv (enterG av) ∧ AVRg gm w ok av u ∧ (∀ q ∈ avIds [av], q ∈ avIds as) ∧ i ≤ j ∧ vs[j - i]? = some u
  | [], vs, i, j, v, _, hg => by cases hg
  | x :: as, vs, i, j, v, h, hg => by
    obtain ⟨u, vs', e, h1, h2⟩ := h
    subst e
    by_cases e : i = j
    · subst e
      unfold enterGs at hg
      rw [get_cons_same] at hg
      injection hg with hg
      refine ⟨x, u, hg.symm, h1, fun q hq => ?_, Nat.le_refl _, by simp⟩
      cases x with
      | lend t y m =>
        have hq : q ∈ idsT t m ++ [] := hq
        rw [List.append_nil] at hq
        exact List.mem_append.2 (.inl hq)
      | val t y => cases hq
      | ref t y => cases hq
      | clo f c => cases hq
      | nil e' t => cases hq
    · unfold enterGs at hg
      rw [get_cons_ne _ _ (fun e' => e (kT_inj e'))] at hg
      obtain ⟨av, u', h3, h4, h5, h6, h7⟩ := enterGs_get h2 hg
      refine ⟨av, u', h3, h4, fun q hq => ?_, by omega, ?_⟩
      · cases x with
        | lend t y m => exact List.mem_append.2 (.inr (h5 q hq))
        | val t y => exact h5 q hq
        | ref t y => exact h5 q hq
        | clo f c => exact h5 q hq
        | nil e' t => exact h5 q hq
      · have : j - i = (j - (i + 1)) + 1 := by omega
        rw [this, List.getElem?_cons_succ]
        exact h7
theorem enterGs_dom : ∀ {as : List AV} {i k : Nat}, (∀ j, k ≠ kT j) → get (enterGs as i) k = none ∧ dom (enterGs as i) k = false
  | [], _, _, _ => ⟨rfl, rfl⟩
  | x :: as, i, k, h => by
    unfold enterGs
    rw [get_cons_ne _ _ (h i).symm, dom_cons_ne _ _ (h i).symm]
    exact enterGs_dom h
theorem enterG_TV {gm g' : Gh} {D : Nat → Bool} {ok' : Nat → Prop} (hρ : g'.ρ = gm.ρ) (ho : ∀ k, ok k → k < w.heap.size → ok' k) {av : AV} {v : Value} (h : AVRg gm w ok av v) (hD : ∀ q ∈ avIds [av], D (kR q) = true) : TVR g' D w ok' (enterG av) v := by
  cases av with
  | lend t u m =>
    obtain ⟨hao, cs, e, hv, _⟩ := h
    show TVR g' D w ok' (.v t u (m.shift 0)) v
    simp only [TVR]
    refine ⟨cs, e, VR_ok (fun _ hk _ => hk.elim) (shift_VR (fun j hj => ⟨by rw [rid_zero, hρ], ?_⟩) hv)⟩
    rw [rid_zero]
    refine hD j ?_
    show j ∈ idsT t m ++ []
    rw [List.append_nil]
    exact hj
  | val t y => exact enter_TV (g := g') ho (av := .val t y) h
  | ref t y => exact enter_TV (g := g') ho (av := .ref t y) h
  | clo f c => exact enter_TV (g := g') ho (av := .clo f c) h
  | nil e' t => exact enter_TV (g := g') ho (av := .nil e' t) h
theorem ptr_start {t : Ty} {x : t.den} {as : List AV} {vs cs : List Value} {blk : Nat} {ty : TypeId} {nt : Nat} {gm : Gh} (hnt : as.length + 1 ≤ nt) (hh : w.heap[blk]? = some (.cells cs.toArray ty (0, 0))) (hnok : ¬ ok blk) (hfk : Kd.FK t.kd w ok x cs) (hav : AVRgs gm w ok as vs)
    (hlo : LentOk gm w (avIds as)) (hsep : ∀ k, LentS gm (avIds as) k → ¬ ok k ∧ k ≠ blk) :
    Rel ⟨w, ok, fun k => k = blk ∨ LentS gm (avIds as) k, nt, 1, fun _ => .pointer (some ⟨blk, 0, none⟩)⟩ { gm with β := fun _ => blk, τ := fun _ => t } (ptrSt t x as)
      { tmps := (Value.pointer (some ⟨blk, 0, none⟩) :: vs).toArray ++ Array.replicate (nt - (Value.pointer (some ⟨blk, 0, none⟩) :: vs).toArray.size) undef, defers := [] } w := by
  have hlen := AVRgs_len hav
  have hrT : ∀ i, dom (rowsG as) (kT i) = false := fun i => by
    cases e : dom (rowsG as) (kT i) with
    | false => rfl
    | true =>
      obtain ⟨v, hv⟩ := dom_mem.1 e
      obtain ⟨j, _, e, _⟩ := rowsG_at hav _ hv
      exact (kT_kR _ _ e).elim
  have hrB : ∀ i, dom (rowsG as) (kB i) = false := fun i => by
    cases e : dom (rowsG as) (kB i) with
    | false => rfl
    | true =>
      obtain ⟨v, hv⟩ := dom_mem.1 e
      obtain ⟨j, _, e, _⟩ := rowsG_at hav _ hv
      exact (kB_kR _ _ e).elim
  have hR : ∀ q, dom (ptrSt t x as) (kR q) = dom (rowsG as) (kR q) := fun q => by
    unfold ptrSt
    rw [dom_cons_ne _ _ (kT_kR 0 q), dom_cons_ne _ _ (kB_kR 0 q), dom_app, (enterGs_dom (fun j e => kT_kR j q e.symm)).2, Bool.false_or]
  have hgR : ∀ {q v}, get (ptrSt t x as) (kR q) = some v → q ∈ avIds as ∧ ∃ e t xs, v = .row e t xs ∧ RowR gm w q e t xs := fun {q v} hv => by
    unfold ptrSt at hv
    rw [get_cons_ne _ _ (kT_kR 0 q), get_cons_ne _ _ (kB_kR 0 q), get_app_out (enterGs_dom (fun j e => kT_kR j q e.symm)).2] at hv
    obtain ⟨j, hj, e1, e, t', xs, e2, e3⟩ := rowsG_at hav _ (get_mem hv)
    have : q = j := kR_inj e1
    subst this
    injection e2 with e2
    exact ⟨hj, e, t', xs, e2, e3⟩
  have hBg : ∀ b v, get (ptrSt t x as) (kB b) = some v → b = 0 ∧ v = .box t x .no := fun b v hv => by
    unfold ptrSt at hv
    rw [get_cons_ne _ _ (kT_kB 0 b)] at hv
    by_cases e : b = 0
    · subst e
      rw [get_cons_same] at hv
      exact ⟨rfl, (Option.some.inj hv).symm⟩
    · rw [get_cons_ne _ _ (fun e' => e (kB_inj e').symm), get_app_out (enterGs_dom (fun j e => kT_kB j b e.symm)).2] at hv
      have := dom_of_get hv
      rw [hrB] at this
      cases this
  have hok : ∀ k, ok k → k < w.heap.size → Fx.ok ⟨w, ok, fun k => k = blk ∨ LentS gm (avIds as) k, nt, 1, fun _ => .pointer (some ⟨blk, 0, none⟩)⟩ { gm with β := fun _ => blk, τ := fun _ => t } (ptrSt t x as) k := by
    intro k hk _
    refine ⟨.inl hk, ?_⟩
    rintro (⟨b, _, e⟩ | ⟨q, ⟨v, hq⟩, hs⟩)
    · have e : blk = k := e
      exact hnok (e ▸ hk)
    · exact (hsep k ⟨q, (hgR hq).1, hs⟩).1 hk
  refine ⟨?_, fun i hi => ?_, rfl, rfl, rfl, rfl, Nat.le_refl _, fun _ _ _ => rfl, ?_, ?_, fun q v hv => ?_, fun q hq => ?_, ?_, fun q ⟨v, hv⟩ k hk => ?_, ?_, fun b q _ ⟨v, hv⟩ hs => ?_, fun q q' ⟨v, hv⟩ ⟨v', hv'⟩ hne k hk hk' => ?_⟩
  · simp [hlen]; omega
  · have : i = 0 := by have : i < 1 := hi; omega
    subst this
    exact one_get _ _ _
  · intro i v hv
    by_cases e : i = 0
    · subst e
      unfold ptrSt at hv
      rw [get_cons_same] at hv
      injection hv with hv
      subst hv
      refine ⟨_, rfl, ?_⟩
      simp only [TVR]
      have h0 : offp t [] = 0 := by cases t <;> simp [offp]
      refine ⟨by rw [h0]; exact one_get _ _ _, ?_⟩
      unfold ptrSt
      rw [dom_cons_ne _ _ (kT_kB 0 0), dom_cons_same]
    · unfold ptrSt at hv
      rw [get_cons_ne _ _ (fun e' => e (kT_inj e').symm), get_cons_ne _ _ (kT_kB i 0).symm] at hv
      cases hdi : dom (enterGs as 1) (kT i) with
      | false =>
        rw [get_app_out hdi] at hv
        have := dom_of_get hv
        rw [hrT] at this
        cases this
      | true =>
        rw [get_app_in hdi] at hv
        obtain ⟨av, u, e1, e2, hin, hij, e3⟩ := enterGs_get hav hv
        refine ⟨_, e1, ?_⟩
        have hiv : (Value.pointer (some ⟨blk, 0, none⟩) :: vs)[i]? = some u := by
          obtain ⟨j, rfl⟩ : ∃ j, i = j + 1 := ⟨i - 1, by omega⟩
          simpa using e3
        have : ((Value.pointer (some ⟨blk, 0, none⟩) :: vs).toArray ++ Array.replicate (nt - (Value.pointer (some ⟨blk, 0, none⟩) :: vs).toArray.size) undef).getD i undef = u := by
          have hi := (List.getElem?_eq_some_iff.1 hiv).1
          rw [Array.getD_eq_getD_getElem?, Array.getElem?_append_left (by simpa using hi)]
          rw [List.getElem?_toArray, hiv]
          rfl
        show TVR _ _ _ _ _ (((Value.pointer (some ⟨blk, 0, none⟩) :: vs).toArray ++ Array.replicate (nt - (Value.pointer (some ⟨blk, 0, none⟩) :: vs).toArray.size) undef).getD i undef)
        rw [this]
        refine enterG_TV (gm := gm) (g' := { gm with β := fun _ => blk, τ := fun _ => t }) rfl hok e2 (fun q hq => ?_)
        rw [hR]
        obtain ⟨v, hv⟩ := rowsG_dom q (hin q hq)
        exact dom_mem.2 ⟨v, hv⟩
  · intro b v hv
    obtain ⟨rfl, rfl⟩ := hBg b v hv
    exact ⟨t, x, .no, rfl, rfl, cs, ty, hh, VR_ok hok (VR_no.2 hfk)⟩
  · exact (hgR hv).2
  · rw [hR] at hq
    obtain ⟨v, hv⟩ := dom_mem.1 hq
    obtain ⟨j, hj, e, _⟩ := rowsG_at hav _ hv
    rw [kR_inj e]
    exact (hlo.1 j hj).1
  · rintro b ⟨v, hv⟩
    exact .inr (.inl rfl)
  · exact ⟨.inr (.inr ⟨q, (hgR hv).1, hk⟩), (hlo.1 q (hgR hv).1).2 k hk⟩
  · rintro b b' ⟨v, hv⟩ ⟨v', hv'⟩ _
    rw [(hBg b v hv).1, (hBg b' v' hv').1]
  · exact (hsep blk ⟨q, (hgR hv).1, hs⟩).2 rfl
  · exact hlo.2 q (hgR hv).1 q' (hgR hv').1 hne k hk hk'
theorem saidG_of (hT : TabOk P T) (hO : OracOk P G O) (hm : P.follows .mixedOrders = true) {fn : Func} {t : Ty} {x : t.den} {as : List AV} (hf : P.funcs[f]? = some fn)
    (hc : (match fn.body with | some c => codeOk 1 fn.ntmps c | none => false) = true) {w : World} {ok : Nat → Prop} {vs : List Value} {blk : Nat} {cs : List Value} {ty : TypeId} {gm : Gh} (h : absFB T G O A fn sg n t x as = some r) (hh : w.heap[blk]? = some (.cells cs.toArray ty (0, 0))) (hnok : ¬ ok blk) (hfk : Kd.FK t.kd w ok x cs) (hav : AVRgs gm w ok as vs) (hlo : LentOk gm w (avIds as)) (hsep : ∀ k, LentS gm (avIds as) k → ¬ ok k ∧ k ≠ blk) :
    Calls P f (Value.pointer (some ⟨blk, 0, none⟩) :: vs).toArray w fun e w' => match e with
      | .returned v => PostG sg w ok (LentS gm (avIds as)) (some (blk, t)) r v w'
      | _ => False := by
  unfold absFB at h
  cases hb : fn.body with
  | none => rw [hb] at h; cases h
  | some c =>
    rw [hb] at h hc
    simp only at h hc
    cases hle : Nat.ble (as.length + 1) fn.ntmps with
    | false => rw [hle] at h; cases h
    | true =>
      rw [hle] at h
      have hle := Nat.le_of_ble_eq_true hle
      refine calls_of_wp hf hb ?_
      have h0 := ptr_start hle hh hnok hfk hav hlo hsep
      have hend : ∀ g st a w', retKB T fn sg t st = some r → Rel ⟨w, ok, fun k => k = blk ∨ LentS gm (avIds as) k, fn.ntmps, 1, fun _ => .pointer (some ⟨blk, 0, none⟩)⟩ g st a w' → a.defers = [] ∧ ∃ v, (results fn a.tmps).run P w' = .ok v w' ∧ PostG sg w ok (LentS gm (avIds as)) (some (blk, t)) r v w' := by
        intro g st a w' hk hr
        obtain ⟨q, l, h1, L, _, h3⟩ := runK_some hk
        injection h3 with h3
        subst h3
        unfold retPB at h1
        obtain ⟨⟨vs, R, fz⟩, l1, l2, h4, h5, _⟩ := run_bind h1
        obtain ⟨hck, h6⟩ := run_chk h5
        obtain ⟨u, l3, hu0, h7, _⟩ := run_rd h6
        obtain ⟨hu, h8⟩ := run_chk h7
        obtain ⟨y, l5, cs', ty', h9, hal0, hblk, hfk'⟩ := readB_spec hr h8
        cases run_ret h9
        simp only [Bool.and_eq_true, Bool.not_eq_true'] at hck
        obtain ⟨⟨hn, ho⟩, hz⟩ := hck
        have hβ : g.β 0 = blk := by
          have hu1 : u = .tv (.box 0 []) := by
            unfold isBox0 at hu
            split at hu
            · rfl
            · cases hu
          subst hu1
          obtain ⟨tv, e1, ht⟩ := h0 |> fun _ => hr.tmps 0 _ hu0
          injection e1 with e1
          subst e1
          simp only [TVR] at ht
          have hkp := hr.keep 0 Nat.zero_lt_one
          rw [ht.1] at hkp
          injection hkp with hkp
          injection hkp with hkp
          injection hkp
        have hokF : ∀ k, Fx.ok ⟨w, ok, fun k => k = blk ∨ LentS gm (avIds as) k, fn.ntmps, 1, fun _ => .pointer (some ⟨blk, 0, none⟩)⟩ g st k → (ok k ∨ LentS gm (avIds as) k) ∨ w.heap.size ≤ k := by
          intro k hk
          rcases hk.1 with h1 | h1 | h1
          · exact .inl (.inl h1)
          · exact .inr h1
          · rcases h1 with h1 | h1
            · exact (hk.2 (.inl ⟨0, hal0, by rw [hβ]; exact h1.symm⟩)).elim
            · exact .inl (.inr h1)
        have hfit := ghRen_fits (g := g) hn
        generalize ghRen g R = gc at hfit
        obtain ⟨a1, a2, a3, us, e, a4⟩ := retAll_ok (gc := gc) (ok' := okP gc (sigIds sg) w (fun k => ok k ∨ LentS gm (avIds as) k)) hT hr h4
        have hsep' : ∀ k, Fx.ok ⟨w, ok, fun k => k = blk ∨ LentS gm (avIds as) k, fn.ntmps, 1, fun _ => .pointer (some ⟨blk, 0, none⟩)⟩ g st k → okP gc (sigIds sg) w (fun k => ok k ∨ LentS gm (avIds as) k) k := by
          intro k hk
          refine ⟨hokF k hk, fun j hj hs => hk.2 ?_⟩
          obtain ⟨o, v, hm⟩ := a3 j hj
          have h7 := hfit j o v hm
          have h8 := a1 j o v hm
          cases o with
          | none => simp only at h7; rw [h7.2.2] at hs; exact hs.elim
          | some q => simp only at h7 h8; rw [h7.2.2] at hs; exact .inr ⟨q, ⟨_, h8⟩, hs⟩
        have hrows : ∀ q, Alive st (kR q) → ∀ k, g.S q k → (LentS gm (avIds as) k ∨ w.heap.size ≤ k) ∧ k < w'.heap.size := by
          intro q hq k hk
          have := hr.newR q hq k hk
          rcases this.1 with h9 | h9 | h9
          · exact ⟨.inr h9, this.2⟩
          · subst h9
            exact (hr.dBR 0 q hal0 hq (by rw [hβ]; exact hk)).elim
          · exact ⟨.inl h9, this.2⟩
        refine ⟨hr.defers, _, results_all e, vs, gc, us, ⟨y, cs', ty', rfl, by rw [← hβ]; exact hblk, Foot.mono hfk' hsep'⟩, hr.os, hr.tape, hr.output, hr.grow, fun k hk hx hne => hr.frame k hk (fun h => h.elim (hne _ _ rfl) hx), rfl, a4 fz (fun _ h => h) (fun k hk _ => hsep' k hk) ?_ hfit, ?_, ?_⟩
        · intro q hq k hk hlt
          refine ⟨(hrows q (a2 q hq) k hk).1.imp .inr id, fun j hj hs => ?_⟩
          obtain ⟨o, v, hm⟩ := a3 j hj
          have h7 := hfit j o v hm
          have h8 := a1 j o v hm
          cases o with
          | none => simp only at h7; rw [h7.2.2] at hs; exact hs.elim
          | some q' =>
            simp only at h7 h8
            rw [h7.2.2] at hs
            have hne : q ≠ q' := fun e => meets_not hz q hq (by rw [e]; exact mem_olds hm)
            exact hr.dRR q q' (a2 q hq) ⟨_, h8⟩ hne k hk hs
        · intro j hj
          obtain ⟨o, v, hm⟩ := a3 j hj
          have h7 := hfit j o v hm
          have h8 := a1 j o v hm
          cases o with
          | none =>
            simp only at h7
            rw [h7.1, h7.2.2]
            exact ⟨rfl, fun k hk => hk.elim⟩
          | some q =>
            simp only at h7 h8
            rw [h7.1, h7.2.2]
            exact ⟨hr.isl q (dom_of_get h8), fun k hk => hrows q ⟨_, h8⟩ k hk⟩
        · intro i hi j hj hne k hki hkj
          obtain ⟨o, v, hm⟩ := a3 i hi
          have h7 := hfit i o v hm
          have h8 := a1 i o v hm
          obtain ⟨o', v', hm'⟩ := a3 j hj
          have h7' := hfit j o' v' hm'
          have h8' := a1 j o' v' hm'
          cases o with
          | none => simp only at h7; rw [h7.2.2] at hki; exact hki.elim
          | some q =>
            cases o' with
            | none => simp only at h7'; rw [h7'.2.2] at hkj; exact hkj.elim
            | some q' =>
              simp only at h7 h7' h8 h8'
              rw [h7.2.2] at hki
              rw [h7'.2.2] at hkj
              refine hr.dRR q q' ⟨_, h8⟩ ⟨_, h8'⟩ (fun e => ?_) k hki hkj
              subst e
              exact hne (olds_inj ho hm hm')
      refine run_ok (F := ⟨w, ok, fun k => k = blk ∨ LentS gm (avIds as) k, fn.ntmps, 1, fun _ => .pointer (some ⟨blk, 0, none⟩)⟩) hT hO hm c 0 _ _ _ _ _ _ _ w hc h h0 (fun g st a w' hk hr => hend g st a w' hk hr) (fun id g st a w' hk hr => by cases hk) (fun g st a w' hk hr => hend g st a w' hk hr)
def SaidP (P : Program) (sg : Sig) (f : Nat) (t : Ty) (x : t.den) (as : List AV) (r : Ret) : Prop := Stands P f ∧ SaidG P sg f t x as r
theorem said_lenB (hT : TabOk P T) (hO : OracOk P G O) (hm : P.follows .mixedOrders = true) {fn : Func} {t : Ty} {x : t.den} {as : List AV} (hf : P.funcs[f]? = some fn) (hname : (fn.name == "runtime.NumGoroutine") = false)
    (hc : (match fn.body with | some c => codeOk 1 fn.ntmps c | none => false) = true) (h : lenT t x ∧ lenAs as → ∃ n, absFB T G O A fn sg n t x as = some r) : SaidP P sg f t x as r := by
  have hb : fn.body.isNone = false := by
    cases hb : fn.body with
    | none => rw [hb] at hc; cases hc
    | some c => rfl
  refine ⟨⟨fn, hf, hname, hb⟩, fun w ok vs blk cs ty gm hh hnok hfk hav hlo hsep => ?_⟩
  obtain ⟨n, hn⟩ := h ⟨K_lenT (Foot.now hfk), AVRgs_lenAs hav⟩
  exact saidG_of hT hO hm hf hc hn hh hnok hfk hav hlo hsep
theorem orcB_ok {t : Ty} {qs : List AP} {g : APs (.lend t .no :: qs) → Bool} {F : APs (.lend t .no :: qs) → Ret} (hG : G f = some sg) (h : ∀ x, g x = true → SaidP P sg f t x.1 (avsOf qs x.2) (F x)) (hr : OracOk P G rest) : OracOk P G (orcX f (.lend t .no :: qs) g F rest) := by
  intro n av K r he
  unfold orcX at he
  cases hn : Nat.beq n f with
  | false => rw [hn] at he; exact hr n av K r he
  | true =>
    rw [hn] at he
    simp only [cond_true] at he
    split at he
    · rename_i x hx
      have := Nat.eq_of_beq_eq_true hn
      subst this
      cases hg : g x with
      | false => rw [hg] at he; cases he
      | true =>
        rw [hg] at he
        obtain ⟨hs, hB⟩ := h x hg
        refine ⟨F x, fun sg' hsg => ⟨⟨hs, fun w ok vs hav => ?_⟩, fun t' u' m' k' hmk _ e => ?_, fun t' u' l' e => ?_, fun t' u' l' e => ?_, fun l' e => ?_, fun t' u' m' hmk _ e => ?_⟩, he⟩
        · have := deAVs_ok _ av x hx hav
          obtain ⟨v, vs', _, h1, _⟩ := this
          exact h1.elim
        · subst e
          rw [lendMark hx] at hmk
          cases hmk
        · subst e
          have := lendMark hx
          cases this
        · subst e
          rw [hG] at hsg
          injection hsg with hsg
          subst hsg
          obtain ⟨z, ys, hz, hys, hxe⟩ := deAVs_cons hx
          subst hxe
          rcases deAV_ok hz with h3 | h3
          · have h3 : AV.lend t' u' .no = .lend t z .no := h3
            injection h3 with e1 e2 e3
            subst e1
            cases e2
            intro w ok vs blk cs ty gm hh hnok hfk hav hlo hsep
            have hr' := deAVs_g _ _ _ hys _ _ _ hav
            rw [hr'.1] at hlo hsep ⊢
            exact hB w ok vs blk cs ty gm hh hnok hfk hr'.2 hlo hsep
          · obtain ⟨_, e, t1, h3⟩ := h3
            cases h3
        · subst e
          have := lendMark hx
          cases this
        · subst e
          rw [lendMark hx] at hmk
          cases hmk
    · exact hr n av K r he
theorem enter_start {as : List AV} {vs : List Value} {nt : Nat} (hle : as.length ≤ nt) (hav : AVRs w ok as vs) :
    Rel ⟨w, ok, fun _ => False, nt, 0, fun _ => undef⟩ ⟨fun _ => 0, fun _ => .bool, fun _ => .slice none 0 0, fun _ => .bool, fun _ _ => False⟩ (enterArgs as 0) { tmps := vs.toArray ++ Array.replicate (nt - vs.toArray.size) undef, defers := [] } w := by
  have hlen := AVRs_len hav
  have hBn : ∀ b, get (enterArgs as 0) (kB b) = none := fun b => (enter_other (fun j e => kT_kB j b e.symm)).1
  have hRn : ∀ b, get (enterArgs as 0) (kR b) = none := fun b => (enter_other (fun j e => kT_kR j b e.symm)).1
  have hRd : ∀ b, dom (enterArgs as 0) (kR b) = false := fun b => (enter_other (fun j e => kT_kR j b e.symm)).2
  refine ⟨?_, fun i hi => absurd hi (Nat.not_lt_zero i), rfl, rfl, rfl, rfl, Nat.le_refl _, fun _ _ _ => rfl, ?_, ?_, ?_, ?_, ?_, ?_, ?_, ?_, ?_⟩
  · simp [hlen]; omega
  · intro i v hv
    obtain ⟨av, u, e1, e2, _, e3⟩ := enter_get hav hv
    refine ⟨_, e1, ?_⟩
    have : (vs.toArray ++ Array.replicate (nt - vs.toArray.size) undef).getD i undef = u := by
      have hi := (List.getElem?_eq_some_iff.1 e3).1
      rw [Nat.sub_zero] at e3 hi
      rw [Array.getD_eq_getD_getElem?, Array.getElem?_append_left (by simpa using hi)]
      simp [e3]
    show TVR _ _ _ _ _ ((vs.toArray ++ Array.replicate (nt - vs.toArray.size) undef).getD i undef)
    rw [this]
    refine enter_TV (fun k hk _ => ⟨.inl hk, ?_⟩) e2
    rintro (⟨b, ⟨v, hb⟩, _⟩ | ⟨q, ⟨v, hq⟩, _⟩)
    · rw [hBn] at hb; cases hb
    · rw [hRn] at hq; cases hq
  · intro b v hv; rw [hBn] at hv; cases hv
  · intro b v hv; rw [hRn] at hv; cases hv
  · intro q hq; rw [hRd] at hq; cases hq
  · rintro b ⟨v, hv⟩; rw [hBn] at hv; cases hv
  · rintro b ⟨v, hv⟩; rw [hRn] at hv; cases hv
  · rintro b b' ⟨v, hv⟩; rw [hBn] at hv; cases hv
  · rintro b b' ⟨v, hv⟩; rw [hBn] at hv; cases hv
  · rintro b b' ⟨v, hv⟩; rw [hRn] at hv; cases hv
theorem saidN_of (hT : TabOk P T) (hO : OracOk P G O) (hm : P.follows .mixedOrders = true) {fn : Func} {t : Ty} {as : List AV} (hf : P.funcs[f]? = some fn)
    (hc : (match fn.body with | some c => codeOk 0 fn.ntmps c | none => false) = true) (h : absFN T G O A fn n t as = some r) : SaidN P f as r := by
  unfold absFN at h
  cases hb : fn.body with
  | none => rw [hb] at h; cases h
  | some c =>
    rw [hb] at h hc
    simp only at h hc
    cases hle : Nat.ble as.length fn.ntmps with
    | false => rw [hle] at h; cases h
    | true =>
      rw [hle] at h
      have hle := Nat.le_of_ble_eq_true hle
      intro w ok vs hav
      refine calls_of_wp hf hb ?_
      have h0 := enter_start hle hav
      have hend : ∀ g st a w', retKN fn t st = some r → Rel ⟨w, ok, fun _ => False, fn.ntmps, 0, fun _ => undef⟩ g st a w' → a.defers = [] ∧ ∃ v, (results fn a.tmps).run P w' = .ok v w' ∧ PostN w ok r v w' := by
        intro g st a w' hk hr
        obtain ⟨q, l, h1, L, _, h3⟩ := runK_some hk
        injection h3 with h3
        subst h3
        unfold retPN at h1
        split at h1
        · rename_i s hs
          obtain ⟨u, l1, hu, h2, _⟩ := run_rd h1
          split at h2
          · rename_i b
            obtain ⟨y, l5, cs', ty', h9, hal0, hblk, hfk'⟩ := readB_spec hr h2
            cases run_ret h9
            obtain ⟨tv, e1, ht⟩ := hr.tmps s _ hu
            injection e1 with e1
            subst e1
            simp only [TVR] at ht
            have h00 : offp (g.τ b) [] = 0 := by cases g.τ b <;> simp [offp]
            rw [h00] at ht
            have hres : ResVals P a w' fn.results.toList [.pointer (some ⟨g.β b, 0, none⟩)] := by
              rw [hs]
              exact ⟨_, [], rfl, ht.1.symm, rfl⟩
            have hnb : w.heap.size ≤ g.β b := by
              rcases hr.newB b hal0 with h1 | h1
              · exact h1
              · exact h1.elim
            refine ⟨hr.defers, _, results_all hres, t, y, g.β b, cs', ty', rfl, ⟨hr.os, hr.tape, hr.output, hr.grow, fun k hk => hr.frame k hk (fun h => h)⟩, rfl, hnb, hblk, Foot.mono hfk' (fun k hk => ⟨?_, fun e => hk.2 (.inl ⟨b, hal0, e.symm⟩)⟩)⟩
            rcases hk.1 with h1 | h1 | h1
            · exact .inl h1
            · exact .inr h1
            · exact h1.elim
          · exact (run_fail h2).elim
        · exact (run_fail h1).elim
      refine run_ok (F := ⟨w, ok, fun _ => False, fn.ntmps, 0, fun _ => undef⟩) hT hO hm c 0 _ _ _ _ _ _ _ w hc h h0 (fun g st a w' hk hr => hend g st a w' hk hr) (fun id g st a w' hk hr => by cases hk) (fun g st a w' hk hr => hend g st a w' hk hr)
def SaidV (P : Program) (f : Nat) (as : List AV) (r : Ret) : Prop := Stands P f ∧ SaidN P f as r
theorem said_lenN (hT : TabOk P T) (hO : OracOk P G O) (hm : P.follows .mixedOrders = true) {fn : Func} {t : Ty} {as : List AV} (hf : P.funcs[f]? = some fn) (hname : (fn.name == "runtime.NumGoroutine") = false)
    (hc : (match fn.body with | some c => codeOk 0 fn.ntmps c | none => false) = true) (h : lenAs as → ∃ n, absFN T G O A fn n t as = some r) : SaidV P f as r := by
  have hb : fn.body.isNone = false := by
    cases hb : fn.body with
    | none => rw [hb] at hc; cases hc
    | some c => rfl
  refine ⟨⟨fn, hf, hname, hb⟩, fun w ok vs hav => ?_⟩
  obtain ⟨n, hn⟩ := h (AVR_len.go hav)
  exact saidN_of hT hO hm hf hc hn w ok vs hav
theorem orcN_ok {qs : List AP} {g : APs (.lend .bool .nil :: qs) → Bool} {F : APs (.lend .bool .nil :: qs) → Ret} (hG : G f = some sg) (h : ∀ x, g x = true → SaidV P f (avsOf qs x.2) (F x)) (hr : OracOk P G rest) : OracOk P G (orcX f (.lend .bool .nil :: qs) g F rest) := by
  intro n av K r he
  unfold orcX at he
  cases hn : Nat.beq n f with
  | false => rw [hn] at he; exact hr n av K r he
  | true =>
    rw [hn] at he
    simp only [cond_true] at he
    split at he
    · rename_i x hx
      have := Nat.eq_of_beq_eq_true hn
      subst this
      cases hg : g x with
      | false => rw [hg] at he; cases he
      | true =>
        rw [hg] at he
        obtain ⟨hs, hB⟩ := h x hg
        refine ⟨F x, fun sg' hsg => ⟨⟨hs, fun w ok vs hav => ?_⟩, fun t' u' m' k' hmk _ e => ?_, fun t' u' l' e => ?_, fun t' u' l' e => ?_, fun l' e => ?_, fun t' u' m' hmk _ e => ?_⟩, he⟩
        · have := deAVs_ok _ av x hx hav
          obtain ⟨v, vs', _, h1, _⟩ := this
          exact h1.elim
        · subst e
          rw [lendMark hx] at hmk
          cases hmk
        · subst e
          obtain ⟨z, ys, hz, hys, hxe⟩ := deAVs_cons hx
          subst hxe
          intro w ok vs hav
          exact hB w ok vs (deAVs_ok _ _ _ hys hav)
        · subst e
          have := lendMark hx
          cases this
        · subst e
          have := lendMark hx
          cases this
        · subst e
          rw [lendMark hx] at hmk
          cases hmk
    · exact hr n av K r he
def SaidX (P : Program) (sg : Sig) (f : Nat) (as : List AV) (r : Ret) : Prop := Stands P f ∧ SaidW P sg f as r
/-- A function that is given own rows, without a pointer. -/
theorem orcV_ok {q : AP} {qs : List AP} {g : APs (.lend .bool (.own 0) :: q :: qs) → Bool} {F : APs (.lend .bool (.own 0) :: q :: qs) → Ret} (hG : G f = some sg) (h : ∀ x, g x = true → SaidX P sg f (avsOf (q :: qs) x.2) (F x)) (hr : OracOk P G rest) : OracOk P G (orcX f (.lend .bool (.own 0) :: q :: qs) g F rest) := by
  intro n av K r he
  unfold orcX at he
  cases hn : Nat.beq n f with
  | false => rw [hn] at he; exact hr n av K r he
  | true =>
    rw [hn] at he
    simp only [cond_true] at he
    split at he
    · rename_i x hx
      have := Nat.eq_of_beq_eq_true hn
      subst this
      cases hg : g x with
      | false => rw [hg] at he; cases he
      | true =>
        rw [hg] at he
        obtain ⟨hs, hB⟩ := h x hg
        have hbool : ∀ {t' : Ty} {u' : t'.den} {m' : Mk} {l' : List AV}, t'.beq .bool = false → deAVs (.lend .bool (.own 0) :: q :: qs) (.lend t' u' m' :: l') = some x → False := by
          intro t' u' m' l' hb hx
          obtain ⟨z, ys, hz, _, _⟩ := deAVs_cons hx
          rcases deAV_ok hz with h3 | ⟨_, e, t1, h3⟩
          · have h3 : AV.lend t' u' m' = .lend .bool z (.own 0) := h3
            injection h3 with e1 e2 e3
            subst e1
            cases hb
          · cases h3
        refine ⟨F x, fun sg' hsg => ⟨⟨hs, fun w ok vs hav => ?_⟩, fun t' u' m' k' hmk hb e => ?_, fun t' u' l' e => ?_, fun t' u' l' e => ?_, fun l' e => ?_, fun t' u' m' hmk hb e => ?_⟩, he⟩
        · have := deAVs_ok _ av x hx hav
          obtain ⟨v, vs', _, h1, _⟩ := this
          exact h1.elim
        · subst e
          exact (hbool hb hx).elim
        · subst e
          have := lendMark hx
          cases this
        · subst e
          have := lendMark hx
          cases this
        · subst e
          rw [hG] at hsg
          injection hsg with hsg
          subst hsg
          obtain ⟨z, ys, hz, hys, hxe⟩ := deAVs_cons hx
          subst hxe
          intro w ok vs gm hav hlo hsep
          have hr' := deAVs_g _ _ _ hys _ _ _ hav
          rw [hr'.1] at hlo hsep ⊢
          exact hB w ok vs gm hr'.2 hlo hsep
        · subst e
          exact (hbool hb hx).elim
    · exact hr n av K r he
end
end Go.Proofs.YtcmjbplnjjdcdaaGreat.Ref

namespace Go.Proofs.YtcmjbplnjjdcdaaGreat.Ref
open Go.RowKit Go.Proofs.YtcmjbplnjjdcdaaGreatW.PrintWords Go.Proofs.YtcmjbplnjjdcdaaGreatW.PrintLast

def layFs (P : Program) (rec : Nat → Ty → Bool) : List Field → Nat → Ty → Bool
  | [], _, _ => false
  | [fd], off, t => Nat.beq fd.offset off && (Nat.beq (P.cellsOf fd.type) t.sz && rec fd.type t)
  | fd :: fs, off, .pair a b => Nat.beq fd.offset off && (Nat.beq (P.cellsOf fd.type) a.sz && (rec fd.type a && layFs P rec fs (off + a.sz) b))
  | _ :: _, _, _ => false
/-- Type n of the program is laid out as t says. -/
def layB (P : Program) : Nat → Nat → Ty → Bool
  | 0, _, _ => false
  | _ + 1, n, .int k => match P.underlying n with
    | some (.int k') => kindEq k k'
    | _ => false
  | _ + 1, n, .bool => match P.underlying n with
    | some .bool => true
    | _ => false
  | _ + 1, n, .str => match P.underlying n with
    | some .string => true
    | _ => false
  | f + 1, n, .slice e t => match P.underlying n with
    | some (.slice e') => Nat.beq e e' && (Nat.beq (P.cellsOf e) t.sz && layB P f e t)
    | _ => false
  | f + 1, n, .pair a b => match P.underlying n with
    | some (.struct fs) => Nat.blt n P.types.size && layFs P (layB P f) fs.toList 0 (.pair a b)
    | _ => false
/-- Every number is of its kind, every length fits. -/
def okT : (t : Ty) → t.den → Prop
  | .int k, n => (Lit.int k n).wf = true
  | .bool, _ => True
  | .str, s => ByteArray.size s ≤ maxLen
  | .slice _ t, xs => List.length (α := t.den) xs ≤ maxLen ∧ ∀ x : t.den, List.Mem x xs → okT t x
  | .pair a b, x => okT a x.1 ∧ okT b x.2

section
variable {H : Type} {enc : TypeId × Value → H} {P : Program} {w : World} {base : Nat} {sp : Nat → Bool} {held : Bool}
theorem layFs_ok {rec : Nat → Ty → Bool} {n : Nat} {cs : List Value}
    (ih : ∀ (k : Nat) (t : Ty) (c : List Value) (x : DataW H × List MemPlace), rec k t = true → DataW.trod enc P w base sp held n k c = some x → ∃ y : t.den, okT t y ∧ t.kd.K w y c) :
    ∀ {fs : List Field} {off : Nat} {t : Ty}, layFs P rec fs off t = true → cs.length = off + t.sz → (∀ f ∈ fs, ∃ x, DataW.trod enc P w base sp held n f.type ((cs.drop f.offset).take (P.cellsOf f.type)) = some x) →
      ∃ y : t.den, okT t y ∧ t.kd.K w y (cs.drop off)
  | [], _, _, h, _, _ => by cases h
  | [fd], off, t, h, hl, hx => by
    have h' : (Nat.beq fd.offset off && (Nat.beq (P.cellsOf fd.type) t.sz && rec fd.type t)) = true := by cases t <;> exact h
    simp only [Bool.and_eq_true] at h'
    obtain ⟨x, hx⟩ := hx fd (List.mem_cons_self ..)
    obtain ⟨y, h1, h2⟩ := ih _ t _ _ h'.2.2 hx
    refine ⟨y, h1, ?_⟩
    rw [Nat.eq_of_beq_eq_true h'.1, Nat.eq_of_beq_eq_true h'.2.1, List.take_of_length_le (by rw [List.length_drop]; omega)] at h2
    exact h2
  | fd :: fd' :: fs, off, .pair a b, h, hl, hx => by
    have h' : (Nat.beq fd.offset off && (Nat.beq (P.cellsOf fd.type) a.sz && (rec fd.type a && layFs P rec (fd' :: fs) (off + a.sz) b))) = true := h
    simp only [Bool.and_eq_true] at h'
    obtain ⟨x, hx0⟩ := hx fd (List.mem_cons_self ..)
    obtain ⟨y, h1, h2⟩ := ih _ a _ _ h'.2.2.1 hx0
    have hl' : cs.length = off + (a.sz + b.sz) := hl
    obtain ⟨z, h3, h4⟩ := layFs_ok ih (t := b) h'.2.2.2 (by omega) (fun f hf => hx f (List.mem_cons_of_mem _ hf))
    refine ⟨(y, z), ⟨h1, h3⟩, (cs.drop off).take a.sz, cs.drop (off + a.sz), ?_, ?_, h4⟩
    · rw [← List.drop_drop, List.take_append_drop]
    · rw [Nat.eq_of_beq_eq_true h'.1, Nat.eq_of_beq_eq_true h'.2.1] at h2
      exact h2
  | fd :: fd' :: fs, off, .int _, h, _, _ => by cases h
  | fd :: fd' :: fs, off, .bool, h, _, _ => by cases h
  | fd :: fd' :: fs, off, .str, h, _, _ => by cases h
  | fd :: fd' :: fs, off, .slice _ _, h, _, _ => by cases h
theorem layFs_size {rec : Nat → Ty → Bool} : ∀ {fs : List Field} {off : Nat} {t : Ty}, layFs P rec fs off t = true → off + t.sz = off + (fs.map fun f => P.cellsOf f.type).sum
  | [], _, _, h => by cases h
  | [fd], off, t, h => by
    have h' : (Nat.beq fd.offset off && (Nat.beq (P.cellsOf fd.type) t.sz && rec fd.type t)) = true := by cases t <;> exact h
    simp only [Bool.and_eq_true] at h'
    simp [Nat.eq_of_beq_eq_true h'.2.1]
  | fd :: fd' :: fs, off, .pair a b, h => by
    have h' : (Nat.beq fd.offset off && (Nat.beq (P.cellsOf fd.type) a.sz && (rec fd.type a && layFs P rec (fd' :: fs) (off + a.sz) b))) = true := h
    simp only [Bool.and_eq_true] at h'
    have := layFs_size h'.2.2.2
    rw [List.map_cons, List.sum_cons, Nat.eq_of_beq_eq_true h'.2.1]
    show off + (a.sz + b.sz) = _
    omega
  | fd :: fd' :: fs, off, .int _, h => by cases h
  | fd :: fd' :: fs, off, .bool, h => by cases h
  | fd :: fd' :: fs, off, .str, h => by cases h
  | fd :: fd' :: fs, off, .slice _ _, h => by cases h
theorem mk_list {α β : Type} {R : α → β → Prop} : ∀ {ys : List β}, (∀ y ∈ ys, ∃ x, R x y) → ∃ xs : List α, xs.length = ys.length ∧ ∀ (j : Nat) (x : α) (y : β), xs[j]? = some x → ys[j]? = some y → R x y
  | [], _ => ⟨[], rfl, fun j x y hx => by simp at hx⟩
  | y :: ys, h => by
    obtain ⟨x, hx⟩ := h y (List.mem_cons_self ..)
    obtain ⟨xs, hl, hr⟩ := mk_list (ys := ys) (fun z hz => h z (List.mem_cons_of_mem _ hz))
    refine ⟨x :: xs, by simp [hl], fun j u v hu hv => ?_⟩
    cases j with
    | zero => simp at hu hv; subst hu; subst hv; exact hx
    | succ j => simp at hu hv; exact hr j u v hu hv
theorem trod_K (K0 : Kids P (· < P.types.size)) : ∀ (f n : Nat) (t : Ty) (fuel : Nat) (cs : List Value) (x : DataW H × List MemPlace), layB P f n t = true → DataW.trod enc P w base sp held fuel n cs = some x → ∃ y : t.den, okT t y ∧ t.kd.K w y cs
  | 0, _, _, _, _, _, h, _ => by cases h
  | f + 1, n, .int k, fuel, cs, x, h, hx => by
    unfold layB at h
    split at h
    · rename_i k' hu
      have := kindEq_eq h
      subst this
      obtain ⟨m, rfl, _, hw⟩ := DataW.trod_int hu hx
      exact ⟨m, hw, rfl⟩
    · cases h
  | f + 1, n, .bool, fuel, cs, x, h, hx => by
    unfold layB at h
    split at h
    · rename_i hu
      obtain ⟨b, rfl, _⟩ := DataW.trod_bool hu hx
      exact ⟨b, trivial, rfl⟩
    · cases h
  | f + 1, n, .str, fuel, cs, x, h, hx => by
    unfold layB at h
    split at h
    · rename_i hu
      obtain ⟨s, rfl, _, hs⟩ := DataW.trod_string hu hx
      exact ⟨s, hs, rfl⟩
    · cases h
  | f + 1, n, .slice e t, fuel, cs, x, h, hx => by
    unfold layB at h
    split at h
    · rename_i e' hu
      simp only [Bool.and_eq_true] at h
      obtain ⟨he, hsz, hl⟩ := h
      have := Nat.eq_of_beq_eq_true he
      subst this
      have hsz := Nat.eq_of_beq_eq_true hsz
      rcases DataW.trod_slice hu hx with ⟨rfl, _⟩ | ⟨a, len, cap, elems, rest, m, _, rfl, _, hb, hlc, hcm, hel, hi, _⟩
      · refine ⟨[], ⟨by show 0 ≤ maxLen; exact Nat.zero_le _, fun x hx => by cases hx⟩, none, 0, rfl, Nat.le_refl _, rfl, by show (0 : Nat) ≤ _; omega, fun h => by cases h⟩
      · have key : ∀ i, i < len → ∃ (c : List Value) (y : t.den), w.cells? base (a.add (i * P.cellsOf e)) (P.cellsOf e) = some c ∧ okT t y ∧ t.kd.K w y c := by
          intro i hi'
          have h1 := hi i hi'
          rw [List.getElem?_eq_getElem (by omega)] at h1
          obtain ⟨c, hc, hy⟩ := Option.bind_eq_some_iff.1 h1
          obtain ⟨y, h2, h3⟩ := trod_K K0 f e t m c _ hl hy
          exact ⟨c, y, hc, h2, h3⟩
        obtain ⟨xs, hxl, hxs⟩ := mk_list (α := t.den) (ys := List.range len) (R := fun y i => ∃ c, w.cells? base (a.add (i * P.cellsOf e)) (P.cellsOf e) = some c ∧ okT t y ∧ t.kd.K w y c) (fun i hi' => by
          obtain ⟨c, y, h1, h2⟩ := key i (List.mem_range.1 hi')
          exact ⟨y, c, h1, h2⟩)
        rw [List.length_range] at hxl
        have hget : ∀ (j : Nat) (y : t.den), xs[j]? = some y → ∃ c, w.cells? base (a.add (j * P.cellsOf e)) (P.cellsOf e) = some c ∧ okT t y ∧ t.kd.K w y c := by
          intro j y hj
          have hlt := (List.getElem?_eq_some_iff.1 hj).1
          exact hxs j y j hj (by rw [List.getElem?_range (by omega)])
        refine ⟨xs, ⟨by show xs.length ≤ maxLen; omega, fun y hy => ?_⟩, some a, cap, by rw [hxl], by omega, rfl, ?_, fun hp => ⟨a, rfl, fun j p hj => ?_⟩⟩
        · obtain ⟨j, hj⟩ := List.getElem?_of_mem hy
          obtain ⟨c, _, h2, _⟩ := hget j y hj
          exact h2
        · have : maxLen = 9223372036854775807 := by decide
          omega
        · obtain ⟨c, h1, _, h3⟩ := hget j p hj
          obtain ⟨_, hcl, hcell⟩ := World.cells?_some h1
          refine ⟨c, by rw [hcl, hsz, kd_sz], h3, fun i u hu' => ?_⟩
          have hilt := (List.getElem?_eq_some_iff.1 hu').1
          have h4 := hcell i (by omega)
          rw [hu'] at h4
          rw [kd_sz, ← hsz, ← h4, Addr.add_add]
    · cases h
  | f + 1, n, .pair p q, fuel, cs, x, h, hx => by
    unfold layB at h
    split at h
    · rename_i fs hu
      obtain ⟨xs, m, _, _, hl, hlen, hf⟩ := DataW.trod_struct hu hx
      simp only [Bool.and_eq_true] at h
      obtain ⟨hn, h⟩ := h
      have hn : n < P.types.size := Nat.le_of_ble_eq_true hn
      have hk := (K0.struct hn hu).2.1
      have hs := layFs_size h
      have hall : ∀ fd ∈ fs.toList, ∃ x, DataW.trod enc P w base sp held m fd.type ((cs.drop fd.offset).take (P.cellsOf fd.type)) = some x := by
        intro fd hfd
        obtain ⟨j, hj⟩ := List.getElem?_of_mem hfd
        have hj' : fs[j]? = some fd := by rw [← hj, Array.getElem?_toList]
        have h1 := hf j fd hj'
        have hlt := (Array.getElem?_eq_some_iff.1 hj').1
        rw [List.getElem?_eq_getElem (by omega)] at h1
        exact ⟨_, h1⟩
      obtain ⟨y, h1, h2⟩ := layFs_ok (fun k t c x hr hx => trod_K K0 f k t m c x hr hx) h (by rw [hl, hk]; omega) hall
      exact ⟨y, h1, h2⟩
    · cases h
theorem val_of {f n : Nat} {t : Ty} {v : Value} (h : layB P f n t = true) (hv : Value.okWide P w .any base n v) : v = valOf t v.cells.toList := by
  cases f with
  | zero => cases h
  | succ f =>
    have flat : ∀ (d : TypeDesc), P.underlying n = some d → (match d with | .struct _ => False | .array _ _ => False | .interface _ => False | .map _ _ => False | .func _ _ _ => False | .chan _ _ => False | .unsafePointer => False | _ => True) → (∀ cs, v ≠ .agg cs) := by
      intro d hd hm cs e
      subst e
      cases d <;> first | exact hm.elim | (simp [Value.okWide, hd, Cell.okWide, Cell.ok] at hv)
    have cell : (∀ cs, v ≠ .agg cs) → v = (v.cells.toList).headD undef := by
      intro hn
      cases v <;> first | rfl | exact (hn _ rfl).elim
    cases t with
    | int k =>
      unfold layB at h
      split at h
      · rename_i k' hu
        exact cell (flat _ hu trivial)
      · cases h
    | bool =>
      unfold layB at h
      split at h
      · rename_i hu
        exact cell (flat _ hu trivial)
      · cases h
    | str =>
      unfold layB at h
      split at h
      · rename_i hu
        exact cell (flat _ hu trivial)
      · cases h
    | slice e t =>
      unfold layB at h
      split at h
      · rename_i e' hu
        exact cell (flat _ hu trivial)
      · cases h
    | pair p q =>
      unfold layB at h
      split at h
      · rename_i fs hu
        unfold Value.okWide at hv
        rw [hu] at hv
        obtain ⟨cs, rfl, _⟩ := hv
        rfl
      · cases h
def layAll (P : Program) (f : Nat) : List TypeId → List Ty → Bool
  | [], [] => true
  | n :: ns, t :: ts => layB P f n t && layAll P f ns ts
  | _, _ => false
def avs : List Dv → List AV
  | [] => []
  | ⟨t, x⟩ :: l => .val t x :: avs l
theorem open_args (K0 : Kids P (· < P.types.size)) {f : Nat} : ∀ {ns : List TypeId} {ts : List Ty} {vs : List Value} {ds : List (DataW H)} {ps : List MemPlace}, layAll P f ns ts = true → (∀ (j : Nat) (n : TypeId) (v : Value), ns[j]? = some n → vs[j]? = some v → Value.okWide P w .any base n v) →
    DataW.TrodAll enc P w 0 sp held ns vs ds ps → ∃ l : List Dv, l.map (·.1) = ts ∧ (∀ d ∈ l, okT d.1 d.2) ∧ AVRs w (fun _ => True) (avs l) vs
  | [], [], [], _, _, _, _, _ => ⟨[], rfl, fun _ h => (List.not_mem_nil h).elim, rfl⟩
  | [], [], _ :: _, [], _, _, _, h => h.elim
  | [], [], _ :: _, _ :: _, _, _, _, h => h.elim
  | [], _ :: _, _, _, _, hl, _, _ => by cases hl
  | _ :: _, [], _, _, _, hl, _, _ => by cases hl
  | _ :: _, _ :: _, [], [], _, _, _, h => h.elim
  | _ :: _, _ :: _, [], _ :: _, _, _, _, h => h.elim
  | _ :: _, _ :: _, _ :: _, [], _, _, _, h => h.elim
  | n :: ns, t :: ts, v :: vs, d :: ds, ps, hl, hv, ⟨p, q, ⟨fuel, h1⟩, h2, _⟩ => by
    have hl' : (layB P f n t && layAll P f ns ts) = true := hl
    rw [Bool.and_eq_true] at hl'
    obtain ⟨y, h3, h4⟩ := trod_K K0 f n t fuel _ _ hl'.1 h1
    obtain ⟨l, h5, h6, h7⟩ := open_args K0 hl'.2 (fun j m u hm hu => hv (j + 1) m u (by simpa using hm) (by simpa using hu)) h2
    refine ⟨⟨t, y⟩ :: l, by rw [List.map_cons, h5], fun e he => ?_, v, vs, rfl, ⟨_, val_of hl'.1 (hv 0 n v rfl rfl), K_FK h4⟩, h7⟩
    rcases List.mem_cons.1 he with rfl | he
    · exact h3
    · exact h6 e he
theorem shut_args {w' : World} (K0 : Kids P (· < P.types.size)) (hsz : ∀ t e, t < P.types.size → P.underlying t = some (.slice e) → 0 < P.cellsOf e) (hb : Below w.heap.size w w') : ∀ {ns : List TypeId} {vs : List Value} {ds : List (DataW H)} {ps : List MemPlace}, (∀ n ∈ ns, n < P.types.size) →
    DataW.TrodAll enc P w 0 (fun _ => true) true ns vs ds ps → DataW.TrodAll enc P w' 0 (fun b => decide (b < w.heap.size)) true ns vs ds ps
  | [], [], [], _, _, h => h
  | [], [], _ :: _, _, _, h => h.elim
  | [], _ :: _, [], _, _, h => h.elim
  | [], _ :: _, _ :: _, _, _, h => h.elim
  | _ :: _, [], [], _, _, h => h.elim
  | _ :: _, [], _ :: _, _, _, h => h.elim
  | _ :: _, _ :: _, [], _, _, h => h.elim
  | n :: ns, v :: vs, d :: ds, ps, hn, ⟨p, q, ⟨fuel, h1⟩, h2, e⟩ => by
    have hlt := DataW.trod_lt fuel _ _ _ h1
    refine ⟨p, q, ⟨fuel, ?_⟩, shut_args K0 hsz hb (fun m hm => hn m (List.mem_cons_of_mem _ hm)) h2, e⟩
    exact DataW.trod_stays K0 (fun {t e} ht hu => hsz t e ht hu) (fun h => by cases h) (hn n (List.mem_cons_self ..)) h1 (fun p hp => hb.same (hlt p hp)) (fun p hp => decide_eq_true (hlt p hp))
theorem post_true {sg : Sig} {v : Value} {w' : World} {ok : Nat → Prop} (h : Post [(.bool, .no)] w ok [⟨.bool, true⟩] v w') : v = .bool true ∧ Below w.heap.size w w' := by
  obtain ⟨g, vs, hb, hv, hr, _⟩ := h
  refine ⟨?_, hb⟩
  obtain ⟨_, cs, vs', e1, h1, _, h2⟩ := hr
  have h2 : vs' = [] := h2
  subst h2
  subst e1
  rw [hv]
  have := VR_no.1 h1
  have hc : cs = [.bool true] := Foot.now this
  rw [hc]
  rfl
end
end Go.Proofs.YtcmjbplnjjdcdaaGreat.Ref

namespace Go.Proofs.YtcmjbplnjjdcdaaGreat.Ref
open Go.RowKit Go.Proofs.YtcmjbplnjjdcdaaGreatW.PrintWords Go.Proofs.YtcmjbplnjjdcdaaGreatW.PrintLast
open Go.ChangeShapes Go.WideShapes Go.ChangeAt

theorem trodAll_len {H : Type} {enc : TypeId × Value → H} {P : Program} {w : World} {base : Nat} {sp : Nat → Bool} {held : Bool} : ∀ {ts : List TypeId} {vs : List Value} {ds : List (DataW H)} {ps : List MemPlace}, DataW.TrodAll enc P w base sp held ts vs ds ps → ds.length = ts.length
  | [], [], [], _, _ => rfl
  | [], [], _ :: _, _, h => h.elim
  | [], _ :: _, [], _, h => h.elim
  | [], _ :: _, _ :: _, _, h => h.elim
  | _ :: _, [], [], _, h => h.elim
  | _ :: _, [], _ :: _, _, h => h.elim
  | _ :: _, _ :: _, [], _, h => h.elim
  | _ :: _, _ :: _, _ :: _, _, ⟨_, _, _, h2, _⟩ => by simp [trodAll_len h2]
theorem calls_post {H : Type} {enc : TypeId × Value → H} {P : Program} {fn : Func} {f b : Nat} {s : ChangeSpec} {ts : List Ty} (hlaid : laidOutB P = true) (hmr : mapsRowed P = true)
    (hsl : ((List.range P.types.size).all fun t => match P.underlying t with | some (.slice e) => decide (0 < P.cellsOf e) | _ => true) = true) (hvars : s.vars = []) (hres : fn.resultTypes = #[b]) (hb : P.underlying b = some .bool)
    (hpar : (fn.params.toList.all fun n => Nat.blt n P.types.size) = true) (hlay : layAll P 20 fn.params.toList ts = true) (hfn : ∀ ds : List (DataW H), ds.length = fn.params.toList.length → s.fn H ds = { results := [.lit (.bool true)], args := ds })
    (hsaid : ∀ l : List Dv, l.map (·.1) = ts → (∀ d ∈ l, okT d.1 d.2) → Said P [(.bool, .no)] f (avs l) [⟨.bool, true⟩])
    {W : World} {base : Nat} {args : Array Value} {ds gs : List (DataW H)} {before : List MemPlace}
    (hval : ∀ (j : Nat) t v, fn.params[j]? = some t → args[j]? = some v → Value.okWide P W .any base t v) (hW : DataW.Whole enc P fn.params.toList s.vars false W args.toList ds gs before) :
    Calls P f args W fun e W' => ∃ v, e = .returned v ∧ s.post enc P fn false true false false W args v W' := by
  have K0 := kids_rows hlaid hmr
  have hsz := slices_full_of P hsl
  have hW' := hW
  obtain ⟨p, q, hA, hV, rfl, hfz, hnd⟩ := hW
  rw [hvars] at hV
  obtain ⟨rfl, rfl⟩ := trodVars_none hV
  obtain ⟨l, hl, hok, hav⟩ := open_args K0 hlay (fun j n v h1 h2 => hval j n v (by rw [← h1, Array.getElem?_toList]) (by rw [← h2, Array.getElem?_toList])) hA
  have hc := (hsaid l hl hok).2 W (fun _ => True) args.toList hav
  have e0 : args.toList.toArray = args := by simp
  rw [e0] at hc
  refine hc.mono ?_
  intro e W' he
  cases e with
  | returned v =>
    obtain ⟨rfl, hbel⟩ := post_true (sg := []) he
    have hlen : (ds ++ ([] : List (DataW H))).length = fn.params.toList.length := by rw [List.append_nil]; exact trodAll_len hA
    refine ⟨_, rfl, ds, [], p ++ [], [], p, [], hW', ?_, ?_, ?_, hbel.frame _, fun h => by cases h⟩
    · rw [hfn _ hlen, hres]
      exact trodAll_mk1 (shut_bool hb _)
    · rw [hfn _ hlen, List.append_nil]
      exact shut_args K0 hsz hbel (fun n hn => Nat.le_of_ble_eq_true (List.all_eq_true.1 hpar n hn)) hA
    · rw [hfn _ hlen, hvars]
      exact rfl
  | panicked ch => exact he.elim
  | outgrown => exact he.elim
end Go.Proofs.YtcmjbplnjjdcdaaGreat.Ref
