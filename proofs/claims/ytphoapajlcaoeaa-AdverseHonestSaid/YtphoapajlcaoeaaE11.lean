/- The engine: a method's contract, said of its object at the front, used where the object stands anywhere. -/
import Derived.Test.YtphoapajlcaoeaaE10
set_option linter.unusedVariables false
namespace Go.X
open Go Go.RowKit
theorem perm_set {α : Type} : ∀ {l : List α} {i : Nat} {x y : α}, l[i]? = some x → (y :: l.eraseIdx i).Perm (l.set i y)
  | [], i, x, y, h => by simp at h
  | a :: l, 0, x, y, h => by simp
  | a :: l, i + 1, x, y, h => by
    simp only [List.eraseIdx_cons_succ, List.set_cons_succ]
    exact (List.Perm.swap _ _ _).trans ((perm_set (by simpa using h)).cons a)
theorem FnC.at {P : Program} {f : FuncId} {args : Array Value} {H : Hp} {ι : Type} {x : Nat × Obj} {y : ι → Nat × Obj} {L : ι → Hp} {R : ι → Value → Prop} (i : Nat) (hi : H[i]? = some x)
    (h : FnC P f args (x :: H.eraseIdx i) (fun v M' => ∃ t, R t v ∧ M' = y t :: (L t ++ H.eraseIdx i))) : FnC P f args H (fun v M' => ∃ t, R t v ∧ M' = L t ++ H.set i (y t)) := fun z w hw => by
  have h1 := h z w (hw.front i hi)
  refine h1.mono fun e w' ⟨v, M', he, ⟨t, hR, hM⟩, ho⟩ => ⟨v, _, he, ⟨t, hR, rfl⟩, ?_⟩
  subst hM
  refine ho.perm ?_
  exact (List.perm_middle.symm).trans ((perm_set hi).append_left _)
theorem FnC.at0 {P : Program} {f : FuncId} {args : Array Value} {H : Hp} {x y : Nat × Obj} {u : Value} (i : Nat) (hi : H[i]? = some x)
    (h : FnC P f args (x :: H.eraseIdx i) (fun v M' => v = u ∧ M' = y :: H.eraseIdx i)) : FnC P f args H (fun v M' => v = u ∧ M' = H.set i y) := fun z w hw => by
  have h1 := h z w (hw.front i hi)
  refine h1.mono fun e w' ⟨v, M', he, ⟨hR, hM⟩, ho⟩ => ⟨v, _, he, ⟨hR, rfl⟩, ?_⟩
  subst hM
  exact ho.perm (perm_set hi)
section
variable {P : Program} {ops : Array Oper} {Q : Exit → Act → World → Prop} {md : Region.Mode}
theorem wpAnyG_any {es : List Nat} {Ss Sw T : World → Prop} {i : Nat} {oi : Oper} {v : Value} (hi : ops[i]? = some oi) (hsel : ∀ (j : Nat) (o : Oper) cs b, ops[j]? = some o → o.op ≠ .select cs b)
    (hQ : ∀ c a w, Q (.panic c) (a.put oi.dst v) w → Q (.panic c) a w) (hie : i ∉ es) (hT : ∀ l w, Sx es Ss Sw l w → T w) :
    ∀ (fuel : Nat) (listed : Array Bool) (a : Act) (w : World),
      (∀ j oj, ops[j]? = some oj → j ≠ i → listed.getD j true = false → (∀ e ∈ oj.after, Region.binds md e = true → e.on ≠ i) → oi.apart ops oj = true) →
      i ∈ Region.ready md ops listed → YieldsIf P ops T oi v a → Sx es Ss Sw listed w →
      wpAnyG P md ops Q (Sx es Ss Sw) fuel (listed.setIfInBounds i true) (a.put oi.dst v) w → wpAnyG P md ops Q (Sx es Ss Sw) (fuel + 1) listed a w := by
  have hSi : ∀ l : Array Bool, Sx es Ss Sw (l.setIfInBounds i true) = Sx es Ss Sw l := fun l => by unfold Sx; rw [came_set hie]
  intro fuel
  induction fuel with
  | zero =>
    intro listed a w _ hr hy hS H
    refine ⟨fun h => (by rw [h] at hr; cases hr), fun j hj => ?_⟩
    by_cases hji : j = i
    · subst hji; exact hy.wpOp hi (hT _ _ hS) ⟨by rw [hSi]; exact hS, H⟩
    · have := ready_mono hj hji
      rw [H.1] at this
      cases this
  | succ fuel ih =>
    intro listed a w hfree hr hy hS H
    refine ⟨fun h => (by rw [h] at hr; cases hr), fun j hj => ?_⟩
    by_cases hji : j = i
    · subst hji; exact hy.wpOp hi (hT _ _ hS) ⟨by rw [hSi]; exact hS, H⟩
    · have h1 := H.2 j (ready_mono hj hji)
      obtain ⟨hjun, oj, hoj, hall⟩ := mem_ready.1 hj
      have hnot : ∀ e ∈ oj.after, Region.binds md e = true → e.on ≠ i := fun e he hb heq => by
        have h1 := hall e he hb
        have h0 := (mem_ready.1 hr).1
        rw [heq] at h1
        rcases Nat.lt_or_ge i listed.size with h' | h'
        · simp [h'] at h0 h1; rw [h0] at h1; cases h1
        · simp [Array.getElem?_eq_none h'] at h1
      have h2 := wpOp_putIf hoj (hfree j oj hoj hji hjun hnot) (fun cs b => hsel i oi cs b hi) (fun cs b => hsel j oj cs b hoj) hQ hy h1
      have hfree' : ∀ k ok, ops[k]? = some ok → k ≠ i → (listed.setIfInBounds j true).getD k true = false →
          (∀ e ∈ ok.after, Region.binds md e = true → e.on ≠ i) → oi.apart ops ok = true := fun k ok hk hki hun hno => by
        refine hfree k ok hk hki ?_ hno
        by_cases hjk : j = k
        · subst hjk; exact hjun
        · rw [getD_set_ne true hjk] at hun; exact hun
      refine wpOp_mono (fun a' w' h3 => ?_) h2
      have hS3 : Sx es Ss Sw (listed.setIfInBounds j true) w' := by
        have := h3.2.1
        rw [Array.setIfInBounds_comm _ _ (Ne.symm hji), hSi] at this
        exact this
      refine ⟨hS3, ih (listed.setIfInBounds j true) a' w' hfree' (ready_mono hr (Ne.symm hji)) h3.1 hS3 ?_⟩
      rw [Array.setIfInBounds_comm _ _ hji]
      exact h3.2.2
end
section
variable {P : Program} {N : Nat} {z : World} {Q : Exit → Act → World → Prop} {E : Env} {M Ms Mw : Hp} {ops : Array Oper} {fuel n m : Nat} {es : List Nat}
/-- what no milestone waits for: it reads the weak heap alone -/
theorem TG.tw (c : Bool) (i m' : Nat) {o : Oper} {d : Nat} {v : Value} (hi : ops[i]? = some o) (hg : o.guard = none) (hd : o.dst = some d) (h : Val P N z E Mw o v) (k : TG P N z ops Q es Ms Mw fuel (ls n m') ((d, v) :: E) M)
    (hN : d < N := by exact Nat.le_of_ble_eq_true rfl) (hc : came es (ls n m) = c := by kernel_rfl) (hk : es.contains i = false := by kernel_rfl) (hs : Region.noSelect ops = true := by kernel_rfl) (hf : Region.free .any ops (ls n m) i = true := by kernel_rfl) (hr : (Region.ready .any ops (ls n m)).contains i = true := by kernel_rfl) (hl : (ls n m).setIfInBounds i true = ls n m' := by kernel_rfl) (hro : ∀ w, Own z w M → Own z w (bif c then Mw else Ms) := by repeat (first | exact Go.X.ro_refl | exact Go.X.ro_pre | refine Go.X.ro_tail ?_ | refine Go.X.ro_app ?_)) (hsw : ∀ w, Own z w Ms → Own z w Mw := by repeat (first | exact Go.X.ro_refl | exact Go.X.ro_pre | refine Go.X.ro_tail ?_ | refine Go.X.ro_app ?_)) : TG P N z ops Q es Ms Mw (fuel + 1) (ls n m) E M := fun a w ha hw => by
  refine wpAnyG_any (T := fun w => Own z w Mw) hi (Region.noSelect_spec hs) (fun c a w h => h) (fun hm => by simp [hm] at hk) (fun l w h => ?_) fuel _ a w (Region.free_spec hi hf) (by simpa using hr) (.inl ⟨by simp [Region.wanted, hg], fun w hw => h a w ha hw⟩) (by rw [Sx_own hc]; exact hro w hw) ?_
  · unfold Sx at h; split at h
    · exact h
    · exact hsw w h
  · rw [hl, hd]
    exact k _ w (ha.put hN v) hw
end
end Go.X
