/- The engine: regions whose order is drawn and that write what they read: the condition on the world may weaken at some operations. -/
import Derived.Test.YtphoapajlcaoeaaE9d
set_option linter.unusedVariables false
set_option linter.unusedSimpArgs false
namespace Go.X
open Go Go.RowKit
section
variable {P : Program} {ops : Array Oper} {Q : Exit → Act → World → Prop} {md : Region.Mode}
/-- has one of these come up? -/
def came (es : List Nat) (l : Array Bool) : Bool := es.any fun e => l.getD e false
/-- the condition by then -/
def Sx (es : List Nat) (Ss Sw : World → Prop) (l : Array Bool) : World → Prop := if came es l = true then Sw else Ss
def wpAnyG (P : Program) (md : Region.Mode) (ops : Array Oper) (Q : Exit → Act → World → Prop) (S : Array Bool → World → Prop) : Nat → Array Bool → Act → World → Prop
  | 0, listed, a, w => Region.ready md ops listed = [] ∧ Q .normal a w
  | fuel + 1, listed, a, w =>
    (Region.ready md ops listed = [] → Q .normal a w) ∧
    ∀ i ∈ Region.ready md ops listed, wpOp P ops Q i (fun a' w' => S (listed.setIfInBounds i true) w' ∧ wpAnyG P md ops Q S fuel (listed.setIfInBounds i true) a' w') a w
theorem wpAny_of_G {S : Array Bool → World → Prop} : ∀ (fuel : Nat) (listed : Array Bool) (a : Act) (w : World), wpAnyG P md ops Q S fuel listed a w → wpAny P md ops Q fuel listed a w
  | 0, _, _, _, h => h
  | fuel + 1, _, _, _, h => ⟨h.1, fun i hi => wpOp_mono (fun a' w' h' => wpAny_of_G fuel _ a' w' h'.2) (h.2 i hi)⟩

theorem came_set {es : List Nat} {l : Array Bool} {j : Nat} (h : j ∉ es) : came es (l.setIfInBounds j true) = came es l := by
  unfold came
  apply Bool.eq_iff_iff.2
  simp only [List.any_eq_true]
  constructor
  · rintro ⟨e, he, h1⟩
    have hje : j ≠ e := fun hje => h (by rw [hje]; exact he)
    rw [getD_set_ne false hje] at h1
    exact ⟨e, he, h1⟩
  · rintro ⟨e, he, h1⟩
    have hje : j ≠ e := fun hje => h (by rw [hje]; exact he)
    exact ⟨e, he, by rw [getD_set_ne false hje]; exact h1⟩
theorem came_mono {es : List Nat} {l : Array Bool} {j : Nat} (h : came es l = true) : came es (l.setIfInBounds j true) = true := by
  unfold came at *
  simp only [List.any_eq_true] at *
  obtain ⟨e, he, h1⟩ := h
  exact ⟨e, he, getD_set_true h1⟩

theorem wpAnyG_first {es : List Nat} {Ss Sw : World → Prop} {i : Nat} {oi : Oper} {v : Value} (hi : ops[i]? = some oi) (hsel : ∀ (j : Nat) (o : Oper) cs b, ops[j]? = some o → o.op ≠ .select cs b)
    (hQ : ∀ c a w, Q (.panic c) (a.put oi.dst v) w → Q (.panic c) a w) (hie : i ∉ es) :
    ∀ (fuel : Nat) (listed : Array Bool) (a : Act) (w : World),
      (∀ j oj, ops[j]? = some oj → j ≠ i → listed.getD j true = false → (∀ e ∈ oj.after, Region.binds md e = true → e.on ≠ i) → oi.apart ops oj = true) →
      (came es listed = true ∨ ∀ e ∈ es, ∀ oe, ops[e]? = some oe → ∃ x ∈ oe.after, Region.binds md x = true ∧ x.on = i) →
      i ∈ Region.ready md ops listed → YieldsIf P ops (Sx es Ss Sw listed) oi v a → Sx es Ss Sw listed w →
      wpAnyG P md ops Q (Sx es Ss Sw) fuel (listed.setIfInBounds i true) (a.put oi.dst v) w → wpAnyG P md ops Q (Sx es Ss Sw) (fuel + 1) listed a w := by
  have hSi : ∀ l : Array Bool, Sx es Ss Sw (l.setIfInBounds i true) = Sx es Ss Sw l := fun l => by unfold Sx; rw [came_set hie]
  intro fuel
  induction fuel with
  | zero =>
    intro listed a w _ _ hr hy hS H
    refine ⟨fun h => (by rw [h] at hr; cases hr), fun j hj => ?_⟩
    by_cases hji : j = i
    · subst hji; exact hy.wpOp hi hS ⟨by rw [hSi]; exact hS, H⟩
    · have := ready_mono hj hji
      rw [H.1] at this
      cases this
  | succ fuel ih =>
    intro listed a w hfree hes hr hy hS H
    refine ⟨fun h => (by rw [h] at hr; cases hr), fun j hj => ?_⟩
    by_cases hji : j = i
    · subst hji; exact hy.wpOp hi hS ⟨by rw [hSi]; exact hS, H⟩
    · have h1 := H.2 j (ready_mono hj hji)
      obtain ⟨hjun, oj, hoj, hall⟩ := mem_ready.1 hj
      have hnot : ∀ e ∈ oj.after, Region.binds md e = true → e.on ≠ i := fun e he hb heq => by
        have h1 := hall e he hb
        have h0 := (mem_ready.1 hr).1
        rw [heq] at h1
        rcases Nat.lt_or_ge i listed.size with h' | h'
        · simp [h'] at h0 h1; rw [h0] at h1; cases h1
        · simp [Array.getElem?_eq_none h'] at h1
      have hsame : Sx es Ss Sw (listed.setIfInBounds j true) = Sx es Ss Sw listed := by
        rcases hes with hc | hw
        · unfold Sx; rw [came_mono hc, hc]
        · have hje : j ∉ es := fun hm => by
            obtain ⟨x, hx, hb, ho⟩ := hw j hm oj hoj
            exact hnot x hx hb ho
          unfold Sx; rw [came_set hje]
      have hes' : came es (listed.setIfInBounds j true) = true ∨ ∀ e ∈ es, ∀ oe, ops[e]? = some oe → ∃ x ∈ oe.after, Region.binds md x = true ∧ x.on = i := hes.imp came_mono id
      have h2 := wpOp_putIf hoj (hfree j oj hoj hji hjun hnot) (fun cs b => hsel i oi cs b hi) (fun cs b => hsel j oj cs b hoj) hQ hy h1
      have hfree' : ∀ k ok, ops[k]? = some ok → k ≠ i → (listed.setIfInBounds j true).getD k true = false →
          (∀ e ∈ ok.after, Region.binds md e = true → e.on ≠ i) → oi.apart ops ok = true := fun k ok hk hki hun hno => by
        refine hfree k ok hk hki ?_ hno
        by_cases hjk : j = k
        · subst hjk; exact hjun
        · rw [getD_set_ne true hjk] at hun; exact hun
      refine wpOp_mono (fun a' w' h3 => ?_) h2
      have hS3 : Sx es Ss Sw (listed.setIfInBounds j true) w' := by
        have := h3.2.1
        rw [Array.setIfInBounds_comm _ _ (Ne.symm hji), hSi] at this
        exact this
      refine ⟨hS3, ih (listed.setIfInBounds j true) a' w' hfree' hes' (ready_mono hr (Ne.symm hji)) (by rw [hsame]; exact h3.1) hS3 ?_⟩
      rw [Array.setIfInBounds_comm _ _ hji]
      exact h3.2.2
end
end Go.X
namespace Go.X
open Go Go.RowKit
def okB (ops : Array Oper) (es : List Nat) (l : Array Bool) (i : Nat) : Bool :=
  !es.contains i && (came es l || es.all fun e => match ops[e]? with | some oe => oe.after.any (fun x => Region.binds .any x && x.on == i) | none => true)
theorem okB_spec {ops : Array Oper} {es : List Nat} {l : Array Bool} {i : Nat} (h : okB ops es l i = true) :
    i ∉ es ∧ (came es l = true ∨ ∀ e ∈ es, ∀ oe, ops[e]? = some oe → ∃ x ∈ oe.after, Region.binds .any x = true ∧ x.on = i) := by
  simp only [okB, Bool.and_eq_true, Bool.or_eq_true, Bool.not_eq_true', List.all_eq_true] at h
  refine ⟨fun hm => by simp [hm] at h, h.2.imp id fun h2 e he oe hoe => ?_⟩
  have h3 := h2 e he
  rw [hoe] at h3
  obtain ⟨x, hx, hb⟩ := Array.any_eq_true'.1 h3
  simp only [Bool.and_eq_true, beq_iff_eq] at hb
  exact ⟨x, hx, hb.1, hb.2⟩
section
variable {P : Program} {N : Nat} {z : World} {Q : Exit → Act → World → Prop} {E : Env} {M Ms Mw : Hp} {ops : Array Oper} {fuel n m : Nat} {es : List Nat}
def TG (P : Program) (N : Nat) (z : World) (ops : Array Oper) (Q : Exit → Act → World → Prop) (es : List Nat) (Ms Mw : Hp) (fuel : Nat) (listed : Array Bool) (E : Env) (M : Hp) : Prop :=
  ∀ a w, Has N E a → Own z w M → wpAnyG P .any ops (NoPanic Q) (Sx es (fun w => Own z w Ms) (fun w => Own z w Mw)) fuel listed a w
theorem Sx_own {c : Bool} {l : Array Bool} (hc : came es l = c) : Sx es (fun w => Own z w Ms) (fun w => Own z w Mw) l = fun w => Own z w (bif c then Mw else Ms) := by
  subst hc
  unfold Sx
  cases came es l <;> rfl
theorem TC.drawG {id : Nat} (es : List Nat) (Mw : Hp) (hm : P.follows .mixedOrders = true) (n : Nat) (h : TG P N z ops Q es M Mw ops.size (ls n 0) E M) (h0 : Array.replicate ops.size false = ls n 0 := by kernel_rfl) : TC P N z Q (.region id ops true) E M :=
  fun a w ha hw => wp_region_noPanic (wp_region_any hm (wpAny_of_G _ _ _ _ (h0 ▸ h a _ ha (hw.drawn _))))
theorem TG.gen {listed : Array Bool} {d : Nat} {b : Bool} (k : ∀ g, g = b → TG P N z ops Q es Ms Mw fuel listed ((d, .bool g) :: E) M) : TG P N z ops Q es Ms Mw fuel listed ((d, .bool b) :: E) M := k b rfl
theorem TG.put (c : Bool) (i m' : Nat) {o : Oper} {d : Nat} {v : Value} (hi : ops[i]? = some o) (hd : o.dst = some d) (hN : d < N)
    (hc : came es (ls n m) = c) (hk : okB ops es (ls n m) i = true) (hs : Region.noSelect ops = true) (hf : Region.free .any ops (ls n m) i = true) (hr : (Region.ready .any ops (ls n m)).contains i = true) (hl : (ls n m).setIfInBounds i true = ls n m')
    (hro : ∀ w, Own z w M → Own z w (bif c then Mw else Ms))
    (hy : ∀ a, Has N E a → YieldsIf P ops (fun w => Own z w (bif c then Mw else Ms)) o v a) (k : TG P N z ops Q es Ms Mw fuel (ls n m') ((d, v) :: E) M) : TG P N z ops Q es Ms Mw (fuel + 1) (ls n m) E M := fun a w ha hw => by
  obtain ⟨h1, h2⟩ := okB_spec hk
  refine wpAnyG_first hi (Region.noSelect_spec hs) (fun c a w h => h) h1 fuel _ a w (Region.free_spec hi hf) h2 (by simpa using hr) (by rw [Sx_own hc]; exact hy a ha) (by rw [Sx_own hc]; exact hro w hw) ?_
  rw [hl, hd]
  exact k _ w (ha.put hN v) hw
theorem TG.tk (c : Bool) (i m' : Nat) {o : Oper} {d : Nat} {v : Value} (hi : ops[i]? = some o) (hg : o.guard = none) (hd : o.dst = some d) (h : Val P N z E (bif c then Mw else Ms) o v) (k : TG P N z ops Q es Ms Mw fuel (ls n m') ((d, v) :: E) M)
    (hN : d < N := by exact Nat.le_of_ble_eq_true rfl) (hc : came es (ls n m) = c := by kernel_rfl) (hk : okB ops es (ls n m) i = true := by kernel_rfl) (hs : Region.noSelect ops = true := by kernel_rfl) (hf : Region.free .any ops (ls n m) i = true := by kernel_rfl) (hr : (Region.ready .any ops (ls n m)).contains i = true := by kernel_rfl) (hl : (ls n m).setIfInBounds i true = ls n m' := by kernel_rfl) (hro : ∀ w, Own z w M → Own z w (bif c then Mw else Ms) := by repeat (first | exact Go.X.ro_refl | exact Go.X.ro_pre | refine Go.X.ro_tail ?_ | refine Go.X.ro_app ?_)) : TG P N z ops Q es Ms Mw (fuel + 1) (ls n m) E M :=
  TG.put c i m' hi hd hN hc hk hs hf hr hl hro (fun a ha => .inl ⟨by simp [Region.wanted, hg], fun w hw => h a w ha hw⟩) k
theorem TG.all {listed : Array Bool} {rs : List Nat} (hr : Region.ready .any ops listed = rs) (hne : rs ≠ [])
    (h : ∀ i ∈ rs, ∀ a w, Has N E a → Own z w M → wpOp P ops (NoPanic Q) i (fun a' w' => Sx es (fun w => Own z w Ms) (fun w => Own z w Mw) (listed.setIfInBounds i true) w' ∧ wpAnyG P .any ops (NoPanic Q) (Sx es (fun w => Own z w Ms) (fun w => Own z w Mw)) fuel (listed.setIfInBounds i true) a' w') a w) : TG P N z ops Q es Ms Mw (fuel + 1) listed E M :=
  fun a w ha hw => ⟨fun h0 => absurd (hr ▸ h0) hne, hr ▸ fun i hi => h i hi a w ha hw⟩
def TP (P : Program) (N : Nat) (z : World) (ops : Array Oper) (Q : Exit → Act → World → Prop) (es : List Nat) (Ms Mw : Hp) (fuel : Nat) (listed : Array Bool) (i : Nat) (E : Env) (M : Hp) : Prop :=
  ∀ a w, Has N E a → Own z w M → wpOp P ops (NoPanic Q) i (fun a' w' => Sx es (fun w => Own z w Ms) (fun w => Own z w Mw) (listed.setIfInBounds i true) w' ∧ wpAnyG P .any ops (NoPanic Q) (Sx es (fun w => Own z w Ms) (fun w => Own z w Mw)) fuel (listed.setIfInBounds i true) a' w') a w
theorem TG.one (i : Nat) (hr : Region.ready .any ops (ls n m) = [i]) (h : TP P N z ops Q es Ms Mw fuel (ls n m) i E M) : TG P N z ops Q es Ms Mw (fuel + 1) (ls n m) E M :=
  TG.all hr (by simp) fun j hj => by simp at hj; subst hj; exact h
theorem TG.two (i j : Nat) (hr : Region.ready .any ops (ls n m) = [i, j]) (h : TP P N z ops Q es Ms Mw fuel (ls n m) i E M) (h' : TP P N z ops Q es Ms Mw fuel (ls n m) j E M) : TG P N z ops Q es Ms Mw (fuel + 1) (ls n m) E M :=
  TG.all hr (by simp) fun k hk => by
    simp at hk
    rcases hk with rfl | rfl
    · exact h
    · exact h'
theorem TG.three (i j l : Nat) (hr : Region.ready .any ops (ls n m) = [i, j, l]) (h : TP P N z ops Q es Ms Mw fuel (ls n m) i E M) (h' : TP P N z ops Q es Ms Mw fuel (ls n m) j E M) (h'' : TP P N z ops Q es Ms Mw fuel (ls n m) l E M) : TG P N z ops Q es Ms Mw (fuel + 1) (ls n m) E M :=
  TG.all hr (by simp) fun k hk => by
    simp at hk
    rcases hk with rfl | rfl | rfl
    · exact h
    · exact h'
    · exact h''
theorem TG.done (hr : Region.ready .any ops (ls n m) = []) (h : AtX N z Q .normal E M) : ∀ fuel, TG P N z ops Q es Ms Mw fuel (ls n m) E M
  | 0 => fun a w ha hw => ⟨hr, NoPanic.normal (h a w ha hw)⟩
  | _ + 1 => fun a w ha hw => ⟨fun _ => NoPanic.normal (h a w ha hw), by rw [hr]; simp⟩
theorem TP.dz {i : Nat} (c : Bool) (m' : Nat) {o : Oper} {R : Value → Hp → Prop} (d : Option Nat) (hi : ops[i]? = some o) (hd : o.dst = d) (hg : o.guard = none) (hN : ltN d N = true) (h : Does P N z E M o R)
    (k : ∀ v M', R v M' → (∀ w, Own z w M' → Own z w (bif c then Mw else Ms)) ∧ TG P N z ops Q es Ms Mw fuel (ls n m') (putE d v E) M') (hl : (ls n m).setIfInBounds i true = ls n m' := by kernel_rfl) (hc : came es (ls n m') = c := by kernel_rfl) : TP P N z ops Q es Ms Mw fuel (ls n m) i E M := fun a w ha hw => by
  subst hd
  unfold wpOp
  rw [hi, hl]
  simp only [Region.wanted, hg, if_true]
  refine .inl (h a w _ (NoPanic Q) ha hw fun v M' w' hR ho => ?_)
  obtain ⟨h1, h2⟩ := k v M' hR
  exact ⟨by rw [Sx_own hc]; exact h1 w' ho, h2 _ w' (ha.putE (ltN_spec hN) v) ho⟩
end
end Go.X
