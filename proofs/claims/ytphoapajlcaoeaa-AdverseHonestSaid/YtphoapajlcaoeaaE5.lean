/- The engine: regions that draw their order. -/
import Derived.Test.YtphoapajlcaoeaaE4
set_option linter.unusedVariables false
set_option linter.unusedSimpArgs false
namespace Go.X
open Go Go.RowKit

section
variable {P : Program} {N : Nat} {z : World} {Q : Exit → Act → World → Prop} {E : Env} {M Mro : Hp} {ops : Array Oper} {fuel : Nat} {listed listed' : Array Bool}

/-- Whatever order is drawn from here on; Mro: blocks that nobody in the region writes. -/
def TA (P : Program) (N : Nat) (z : World) (ops : Array Oper) (Q : Exit → Act → World → Prop) (Mro : Hp) (fuel : Nat) (listed : Array Bool) (E : Env) (M : Hp) : Prop :=
  ∀ a w, Has N E a → Own z w M → wpAnyH P .any ops (NoPanic Q) (fun w => Own z w Mro) fuel listed a w

theorem TC.draw {id : Nat} (Mro : Hp) (hm : P.follows .mixedOrders = true) (h : TA P N z ops Q Mro ops.size (Array.replicate ops.size false) E M) : TC P N z Q (.region id ops true) E M :=
  fun a w ha hw => wp_region_noPanic (wp_region_held hm (h a _ ha (hw.drawn _)))

theorem TA.heap {M' : Hp} (hM : ∀ w, Own z w M → Own z w M') (h : TA P N z ops Q Mro fuel listed E M') : TA P N z ops Q Mro fuel listed E M := fun a w ha hw => h a w ha (hM w hw)
theorem TA.env {E' : Env} (hE : Sub E' E) (h : TA P N z ops Q Mro fuel listed E' M) : TA P N z ops Q Mro fuel listed E M := fun a w ha hw => h a w (ha.sub hE) hw
theorem TA.gen {d : Nat} {b : Bool} (k : ∀ g, g = b → TA P N z ops Q Mro fuel listed ((d, .bool g) :: E) M) : TA P N z ops Q Mro fuel listed ((d, .bool b) :: E) M := k b rfl

/-- An operation that only reads what nobody writes is taken first. -/
theorem TA.take (i : Nat) {o : Oper} {d : Nat} {v : Value} (hi : ops[i]? = some o) (hg : o.guard = none) (hd : o.dst = some d) (hN : d < N)
    (hs : Region.noSelect ops = true) (hf : Region.free .any ops listed i = true) (hr : (Region.ready .any ops listed).contains i = true) (hl : listed.setIfInBounds i true = listed')
    (hro : ∀ w, Own z w M → Own z w Mro) (h : Val P N z E Mro o v) (k : TA P N z ops Q Mro fuel listed' ((d, v) :: E) M) : TA P N z ops Q Mro (fuel + 1) listed E M := fun a w ha hw => by
  refine wpAnyH_take (v := v) hi hs hf hr (fun c a w h => h) (.inl ⟨by simp [Region.wanted, hg], fun w hw => h a w ha hw⟩) (hro w hw) ?_
  rw [hl, hd]
  exact k _ w (ha.put hN v) hw

theorem TA.gtake (i : Nat) {o : Oper} {d j dj : Nat} {want g : Bool} {v : Value} (hi : ops[i]? = some o) (hg : o.guard = some (j, want)) (hd : o.dst = some d) (hN : d < N) (hj : (ops[j]?).bind (·.dst) = some dj) (hM : dj < N) (hb : look E dj = some (.bool g))
    (hs : Region.noSelect ops = true) (hf : Region.free .any ops listed i = true) (hr : (Region.ready .any ops listed).contains i = true) (hl : listed.setIfInBounds i true = listed')
    (hro : ∀ w, Own z w M → Own z w Mro) (h : g = want → Val P N z E Mro o v) (k : TA P N z ops Q Mro fuel listed' ((d, gd g want v) :: E) M) : TA P N z ops Q Mro (fuel + 1) listed E M := fun a w ha hw => by
  refine wpAnyH_take (v := gd g want v) hi hs hf hr (fun c a w h => h) ?_ (hro w hw) ?_
  · by_cases e : g = want
    · subst e
      refine .inl ⟨wanted_yes hg ha hj hM hb, fun w hw => ?_⟩
      have : gd g g v = v := by simp [gd]
      rw [this]
      exact h rfl a w ha hw
    · refine .inr ⟨?_, by cases g <;> cases want <;> simp_all [gd]⟩
      simp only [Region.wanted, hg, yielded_look ha hM hj hb]
      cases g <;> cases want <;> simp at e ⊢
  · rw [hl, hd]
    exact k _ w (ha.put hN _) hw

theorem TA.takeYes (i : Nat) {o : Oper} {d j dj : Nat} {want : Bool} {v : Value} (hi : ops[i]? = some o) (hg : o.guard = some (j, want)) (hd : o.dst = some d) (hN : d < N) (hj : (ops[j]?).bind (·.dst) = some dj) (hM : dj < N) (hb : look E dj = some (.bool want))
    (hs : Region.noSelect ops = true) (hf : Region.free .any ops listed i = true) (hr : (Region.ready .any ops listed).contains i = true) (hl : listed.setIfInBounds i true = listed')
    (hro : ∀ w, Own z w M → Own z w Mro) (h : Val P N z E Mro o v) (k : TA P N z ops Q Mro fuel listed' ((d, v) :: E) M) : TA P N z ops Q Mro (fuel + 1) listed E M := fun a w ha hw => by
  refine wpAnyH_take (v := v) hi hs hf hr (fun c a w h => h) (.inl ⟨wanted_yes hg ha hj hM hb, fun w hw => h a w ha hw⟩) (hro w hw) ?_
  rw [hl, hd]
  exact k _ w (ha.put hN v) hw

theorem TA.takePass (i : Nat) {o : Oper} {d j dj : Nat} {want b : Bool} (hi : ops[i]? = some o) (hg : o.guard = some (j, want)) (hd : o.dst = some d) (hN : d < N) (hj : (ops[j]?).bind (·.dst) = some dj) (hM : dj < N) (hb : look E dj = some (.bool b)) (hne : (b == want) = false)
    (hs : Region.noSelect ops = true) (hf : Region.free .any ops listed i = true) (hr : (Region.ready .any ops listed).contains i = true) (hl : listed.setIfInBounds i true = listed')
    (hro : ∀ w, Own z w M → Own z w Mro) (k : TA P N z ops Q Mro fuel listed' ((d, undef) :: E) M) : TA P N z ops Q Mro (fuel + 1) listed E M := fun a w ha hw => by
  refine wpAnyH_take (v := undef) hi hs hf hr (fun c a w h => h) (.inr ⟨?_, rfl⟩) (hro w hw) ?_
  · simp only [Region.wanted, hg, yielded_look ha hM hj hb]
    cases b <;> cases want <;> simp at hne ⊢
  · rw [hl, hd]
    exact k _ w (ha.put hN _) hw

theorem TA.takePassU (i : Nat) {o : Oper} {d j dj : Nat} {want : Bool} (hi : ops[i]? = some o) (hg : o.guard = some (j, want)) (hd : o.dst = some d) (hN : d < N) (hj : (ops[j]?).bind (·.dst) = some dj) (hM : dj < N) (hb : look E dj = some undef)
    (hs : Region.noSelect ops = true) (hf : Region.free .any ops listed i = true) (hr : (Region.ready .any ops listed).contains i = true) (hl : listed.setIfInBounds i true = listed')
    (hro : ∀ w, Own z w M → Own z w Mro) (k : TA P N z ops Q Mro fuel listed' ((d, undef) :: E) M) : TA P N z ops Q Mro (fuel + 1) listed E M := fun a w ha hw => by
  refine wpAnyH_take (v := undef) hi hs hf hr (fun c a w h => h) (.inr ⟨?_, rfl⟩) (hro w hw) ?_
  · simp only [Region.wanted, hg, yielded_undef ha hM hj hb]
    rfl
  · rw [hl, hd]
    exact k _ w (ha.put hN _) hw

/-- What is owed of the operation that comes up now. -/
def TO (P : Program) (N : Nat) (z : World) (ops : Array Oper) (Q : Exit → Act → World → Prop) (Mro : Hp) (fuel : Nat) (listed : Array Bool) (i : Nat) (E : Env) (M : Hp) : Prop :=
  ∀ a w, Has N E a → Own z w M → wpOp P ops (NoPanic Q) i (fun a' w' => Own z w' Mro ∧ wpAnyH P .any ops (NoPanic Q) (fun w => Own z w Mro) fuel (listed.setIfInBounds i true) a' w') a w

theorem TA.all {rs : List Nat} (hr : Region.ready .any ops listed = rs) (hne : rs ≠ []) (h : ∀ i ∈ rs, TO P N z ops Q Mro fuel listed i E M) : TA P N z ops Q Mro (fuel + 1) listed E M :=
  fun a w ha hw => wpAnyH_all hr hne fun i hi => h i hi a w ha hw

theorem TA.one (i : Nat) (hr : Region.ready .any ops listed = [i]) (h : TO P N z ops Q Mro fuel listed i E M) : TA P N z ops Q Mro (fuel + 1) listed E M :=
  TA.all hr (by simp) fun j hj => by simp at hj; subst hj; exact h

theorem TA.two (i j : Nat) (hr : Region.ready .any ops listed = [i, j]) (h : TO P N z ops Q Mro fuel listed i E M) (h' : TO P N z ops Q Mro fuel listed j E M) : TA P N z ops Q Mro (fuel + 1) listed E M :=
  TA.all hr (by simp) fun k hk => by
    simp at hk
    rcases hk with rfl | rfl
    · exact h
    · exact h'

theorem TA.three (i j l : Nat) (hr : Region.ready .any ops listed = [i, j, l]) (h : TO P N z ops Q Mro fuel listed i E M) (h' : TO P N z ops Q Mro fuel listed j E M) (h'' : TO P N z ops Q Mro fuel listed l E M) : TA P N z ops Q Mro (fuel + 1) listed E M :=
  TA.all hr (by simp) fun k hk => by
    simp at hk
    rcases hk with rfl | rfl | rfl
    · exact h
    · exact h'
    · exact h''

theorem TO.does {i : Nat} {o : Oper} {R : Value → Hp → Prop} (d : Option Nat) (hi : ops[i]? = some o) (hd : o.dst = d) (hg : o.guard = none) (hN : ltN d N = true) (hl : listed.setIfInBounds i true = listed') (h : Does P N z E M o R)
    (k : ∀ v M', R v M' → (∀ w, Own z w M' → Own z w Mro) ∧ TA P N z ops Q Mro fuel listed' (putE d v E) M') : TO P N z ops Q Mro fuel listed i E M := fun a w ha hw => by
  subst hl; subst hd
  unfold wpOp
  rw [hi]
  simp only [Region.wanted, hg, if_true]
  refine .inl (h a w _ (NoPanic Q) ha hw fun v M' w' hR ho => ?_)
  obtain ⟨h1, h2⟩ := k v M' hR
  exact ⟨h1 w' ho, h2 _ w' (ha.putE (ltN_spec hN) v) ho⟩

theorem TO.doesYes {i j dj : Nat} {want : Bool} {o : Oper} {R : Value → Hp → Prop} (d : Option Nat) (hi : ops[i]? = some o) (hd : o.dst = d) (hg : o.guard = some (j, want)) (hj : (ops[j]?).bind (·.dst) = some dj) (hM : dj < N) (hb : look E dj = some (.bool want)) (hN : ltN d N = true) (hl : listed.setIfInBounds i true = listed') (h : Does P N z E M o R)
    (k : ∀ v M', R v M' → (∀ w, Own z w M' → Own z w Mro) ∧ TA P N z ops Q Mro fuel listed' (putE d v E) M') : TO P N z ops Q Mro fuel listed i E M := fun a w ha hw => by
  subst hl; subst hd
  unfold wpOp
  rw [hi]
  simp only [wanted_yes hg ha hj hM hb, if_true]
  refine .inl (h a w _ (NoPanic Q) ha hw fun v M' w' hR ho => ?_)
  obtain ⟨h1, h2⟩ := k v M' hR
  exact ⟨h1 w' ho, h2 _ w' (ha.putE (ltN_spec hN) v) ho⟩

theorem TO.pass {i j dj : Nat} {want b : Bool} {o : Oper} (d : Option Nat) (hi : ops[i]? = some o) (hd : o.dst = d) (hg : o.guard = some (j, want)) (hj : (ops[j]?).bind (·.dst) = some dj) (hM : dj < N) (hb : look E dj = some (.bool b)) (hne : (b == want) = false) (hN : ltN d N = true) (hl : listed.setIfInBounds i true = listed')
    (hro : ∀ w, Own z w M → Own z w Mro) (k : TA P N z ops Q Mro fuel listed' (putE d undef E) M) : TO P N z ops Q Mro fuel listed i E M := fun a w ha hw => by
  subst hl; subst hd
  unfold wpOp
  rw [hi]
  have hw' : Region.wanted o (yielded ops a.tmps) = false := by
    simp only [Region.wanted, hg, yielded_look ha hM hj hb]
    cases b <;> cases want <;> simp at hne ⊢
  simp only [hw', Bool.false_eq_true, if_false]
  exact ⟨hro w hw, k _ w (ha.putE (ltN_spec hN) _) hw⟩

theorem TA.done (hr : Region.ready .any ops listed = []) (h : AtX N z Q .normal E M) : TA P N z ops Q Mro fuel listed E M :=
  fun a w ha hw => wpAnyH_done hr (NoPanic.normal (h a w ha hw)) fuel

/-! the world of Own: moving between lists -/
theorem ro_refl {M : Hp} : ∀ w, Own z w M → Own z w M := fun _ h => h
theorem ro_tail {x : Nat × Obj} {M M' : Hp} (h : ∀ w, Own z w M → Own z w M') : ∀ w, Own z w (x :: M) → Own z w M' := fun w hw => h w hw.drop
theorem ro_perm {M M' : Hp} (h : M.Perm M') : ∀ w, Own z w M → Own z w M' := fun w hw => hw.perm h
theorem ro_sub {M M' : Hp} (h : M'.Sublist M) : ∀ w, Own z w M → Own z w M' := fun w hw => hw.sublist h
/-- block i of the list, ahead of what is left -/
theorem ro_pick {M M' : Hp} {x : Nat × Obj} (i : Nat) (hi : M[i]? = some x) (h : (x :: M.eraseIdx i) = M') : ∀ w, Own z w M → Own z w M' := fun w hw => h ▸ hw.front i hi
theorem ro_del {M M' : Hp} (i : Nat) (h : M.eraseIdx i = M') : ∀ w, Own z w M → Own z w M' := fun w hw => h ▸ hw.sublist (List.eraseIdx_sublist M i)
theorem ro_trans {M M' M'' : Hp} (h : ∀ w, Own z w M → Own z w M') (h' : ∀ w, Own z w M' → Own z w M'') : ∀ w, Own z w M → Own z w M'' := fun w hw => h' w (h w hw)
end
end Go.X
