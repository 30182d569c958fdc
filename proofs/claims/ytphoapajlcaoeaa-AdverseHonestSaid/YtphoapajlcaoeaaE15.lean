/- The engine: long regions whose order is drawn, where every operation waits for what it reads: quick checks. -/
import Derived.Test.YtphoapajlcaoeaaE14
set_option linter.unusedVariables false
set_option linter.unusedSimpArgs false
namespace Go.X
open Go Go.RowKit
def waits (o : Oper) (i : Nat) : Bool := o.after.toList.any fun e => Region.binds .any e && Nat.beq e.on i
def noSel (o : Oper) : Bool := match o.op with | .select .. => false | _ => true
/-- of two, one waits for the other, or they are apart -/
def Tidy (ops : Array Oper) : Prop := Region.noSelect ops = true ∧ ∀ i j oi oj, ops[i]? = some oi → ops[j]? = some oj → i ≠ j → waits oj i = false → waits oi j = false → oi.apart ops oj = true
def dd : List Nat → Bool
  | [] => true
  | x :: r => !(r.any (Nat.beq x)) && dd r
/-- who reads what x yields waits for it -/
def heeds (ops : Array Oper) (all : List (Oper × Nat)) (x : Oper × Nat) : Bool :=
  (x.1.looksAt ops).all fun t => all.all fun y => (match y.1.dst with | some d => !Nat.beq d t | none => true) || Nat.beq y.2 x.2 || waits x.1 y.2
def tidyB (ops : Array Oper) : Bool := ops.toList.all noSel && (dd (ops.toList.filterMap (·.dst)) && (let l := ops.toList.zipIdx; l.all (heeds ops l)))
theorem dd_spec : ∀ {l : List Nat}, dd l = true → l.Nodup
  | [], _ => List.nodup_nil
  | x :: r, h => by
    simp only [dd, Bool.and_eq_true, Bool.not_eq_true'] at h
    refine List.nodup_cons.2 ⟨fun hm => ?_, dd_spec h.2⟩
    have h1 := h.1
    rw [List.any_eq_false] at h1
    exact h1 x hm (by simp)
theorem dst_ne {l : List Oper} (h : (l.filterMap (·.dst)).Nodup) : ∀ {i j : Nat} {oi oj : Oper} {d : Nat}, l[i]? = some oi → l[j]? = some oj → i ≠ j → oi.dst = some d → oj.dst ≠ some d := by
  induction l with
  | nil => intro i j oi oj d h1; simp at h1
  | cons x r ih =>
    intro i j oi oj d h1 h2 hij hd he
    have hr : (r.filterMap (·.dst)).Nodup := by
      rw [List.filterMap_cons] at h
      split at h
      · exact h
      · exact (List.nodup_cons.1 h).2
    cases i with
    | zero =>
      cases j with
      | zero => exact hij rfl
      | succ j =>
        simp at h1 h2
        subst h1
        rw [List.filterMap_cons, hd] at h
        exact (List.nodup_cons.1 h).1 (List.mem_filterMap.2 ⟨oj, List.mem_of_getElem? h2, he⟩)
    | succ i =>
      cases j with
      | zero =>
        simp at h1 h2
        subst h2
        rw [List.filterMap_cons, he] at h
        exact (List.nodup_cons.1 h).1 (List.mem_filterMap.2 ⟨oi, List.mem_of_getElem? h1, hd⟩)
      | succ j => exact ih hr (by simpa using h1) (by simpa using h2) (by omega) hd he
theorem tidy_spec {ops : Array Oper} (h : tidyB ops = true) : Tidy ops := by
  simp only [tidyB, Bool.and_eq_true, List.all_eq_true] at h
  obtain ⟨h1, h2, h3⟩ := h
  refine ⟨?_, fun i j oi oj hi hj hij hw1 hw2 => ?_⟩
  · unfold Region.noSelect
    rw [Array.all_eq_true_iff_forall_mem]
    intro o ho
    have := h1 o (by simpa using ho)
    unfold noSel at this
    exact this
  · have hi' : ops.toList[i]? = some oi := by simpa using hi
    have hj' : ops.toList[j]? = some oj := by simpa using hj
    have key : ∀ {p q : Nat} {x y : Oper} {d : Nat}, ops.toList[p]? = some x → ops.toList[q]? = some y → p ≠ q → waits y p = false → x.dst = some d → d ∉ y.looksAt ops := by
      intro p q x y d hp hq hpq hw hd hm
      have hy : (y, q) ∈ ops.toList.zipIdx := List.mk_mem_zipIdx_iff_getElem?.2 hq
      have hx : (x, p) ∈ ops.toList.zipIdx := List.mk_mem_zipIdx_iff_getElem?.2 hp
      have h4 := h3 _ hy
      simp only [heeds, List.all_eq_true] at h4
      have h5 := h4 d hm _ hx
      simp only [hd, hw, Bool.or_false] at h5
      simp at h5
      exact hpq h5
    have hn := dd_spec h2
    unfold Oper.apart
    rw [Bool.and_eq_true]
    constructor
    · cases hd : oi.dst with
      | none => rfl
      | some d =>
        simp only [Bool.and_eq_true, Bool.not_eq_true', bne_iff_ne]
        exact ⟨by have := key hi' hj' hij hw1 hd; simpa using this, dst_ne hn hi' hj' hij hd⟩
    · cases hd : oj.dst with
      | none => rfl
      | some d =>
        simp only [Bool.not_eq_true']
        have := key hj' hi' (Ne.symm hij) hw2 hd
        simpa using this
theorem ls_size (n m : Nat) : (ls n m).size = n := by simp [ls]
theorem ls_getD (n m k : Nat) (d : Bool) : (ls n m).getD k d = if k < n then m.testBit k else d := by
  rw [Array.getD_eq_getD_getElem?]
  simp only [ls, List.getElem?_toArray, List.getElem?_map]
  by_cases h : k < n
  · rw [List.getElem?_range h, if_pos h]; rfl
  · rw [List.getElem?_eq_none (by simp; omega), if_neg h]; rfl
theorem ls_set (n m i : Nat) : (ls n m).setIfInBounds i true = ls n (m ||| 1 <<< i) := by
  apply Array.ext'
  apply List.ext_getElem?
  intro k
  simp only [ls, Array.toList_setIfInBounds, List.getElem?_set, List.getElem?_map, List.length_map, List.length_range]
  by_cases hk : k < n
  · rw [List.getElem?_range hk]
    simp only [Option.map_some, Nat.testBit_or, Nat.testBit_shiftLeft]
    by_cases hik : i = k
    · subst hik; simp [hk]
    · rw [if_neg hik]
      congr 1
      by_cases h2 : i ≤ k
      · have : Nat.testBit 1 (k - i) = false := by
          rw [Bool.eq_false_iff]
          intro h3
          have := Nat.testBit_one_eq_true_iff_self_eq_zero.1 h3
          omega
        simp [this]
      · simp [h2]
  · rw [List.getElem?_eq_none (by simp; omega)]
    simp; omega
/-- all that it waits for stands in the number -/
def rdy (n : Nat) (o : Oper) (m : Nat) : Bool := o.after.toList.all fun e => !Region.binds .any e || (m.testBit e.on && Nat.blt e.on n)
def rdyL (n m : Nat) : Nat → List Oper → List Nat
  | _, [] => []
  | k, o :: r => bif !m.testBit k && rdy n o m then k :: rdyL n m (k + 1) r else rdyL n m (k + 1) r
theorem rdy_spec {n m : Nat} {o : Oper} : rdy n o m = true ↔ ∀ e ∈ o.after, Region.binds .any e = true → (ls n m).getD e.on false = true := by
  simp only [rdy, List.all_eq_true]
  constructor
  · intro h e he hb
    have := h e (by simpa using he)
    simp only [hb, Bool.not_true, Bool.false_or, Bool.and_eq_true, Nat.blt_eq] at this
    rw [ls_getD, if_pos this.2]; exact this.1
  · intro h e he
    cases hb : Region.binds .any e with
    | false => rfl
    | true =>
      have := h e (by simpa using he) hb
      rw [ls_getD] at this
      split at this
      · simp [this, *]
      · cases this
theorem rdyL_mem {n m : Nat} : ∀ {l : List Oper} {k j : Nat} {o : Oper}, l[j]? = some o → m.testBit (k + j) = false → rdy n o m = true → (k + j) ∈ rdyL n m k l
  | [], k, j, o, h, _, _ => by simp at h
  | x :: r, k, 0, o, h, h1, h2 => by
    simp at h; subst h
    simp only [Nat.add_zero] at h1 ⊢
    simp [rdyL, h1, h2]
  | x :: r, k, j + 1, o, h, h1, h2 => by
    have e : k + (j + 1) = k + 1 + j := by omega
    rw [e] at h1 ⊢
    have := rdyL_mem (k := k + 1) (by simpa using h) h1 h2
    simp only [rdyL]
    cases (!m.testBit k && rdy n x m)
    · exact this
    · exact List.mem_cons_of_mem _ this
theorem rdyL_back {n m : Nat} : ∀ {l : List Oper} {k j : Nat}, j ∈ rdyL n m k l → ∃ q o, j = k + q ∧ l[q]? = some o ∧ m.testBit j = false ∧ rdy n o m = true
  | [], k, j, h => by simp [rdyL] at h
  | x :: r, k, j, h => by
    have back : j ∈ rdyL n m (k + 1) r → ∃ q o, j = k + q ∧ (x :: r)[q]? = some o ∧ m.testBit j = false ∧ rdy n o m = true := fun h => by
      obtain ⟨q, o, e, h1, h2, h3⟩ := rdyL_back h
      exact ⟨q + 1, o, by omega, by simpa using h1, h2, h3⟩
    simp only [rdyL] at h
    cases hc : (!m.testBit k && rdy n x m) with
    | false => rw [hc] at h; exact back h
    | true =>
      rw [hc] at h
      rcases List.mem_cons.1 h with rfl | h
      · simp only [Bool.and_eq_true, Bool.not_eq_true'] at hc
        exact ⟨0, x, rfl, rfl, hc.1, hc.2⟩
      · exact back h
theorem ready_iff {ops : Array Oper} {n m j : Nat} (hs : ops.size = n) : j ∈ Region.ready .any ops (ls n m) ↔ j ∈ rdyL n m 0 ops.toList := by
  rw [mem_ready]
  constructor
  · rintro ⟨h1, o, ho, h2⟩
    have hj : j < n := by rw [← hs]; exact (Array.getElem?_eq_some_iff.1 ho).1
    rw [ls_getD, if_pos hj] at h1
    have := rdyL_mem (n := n) (m := m) (l := ops.toList) (k := 0) (j := j) (o := o) (by simpa using ho) (by simpa using h1) (rdy_spec.2 h2)
    simpa using this
  · intro h
    obtain ⟨q, o, e, h1, h2, h3⟩ := rdyL_back h
    simp at e; subst e
    have ho : ops[j]? = some o := by simpa using h1
    have hj : j < n := by rw [← hs]; exact (Array.getElem?_eq_some_iff.1 ho).1
    refine ⟨by rw [ls_getD, if_pos hj]; exact h2, o, ho, rdy_spec.1 h3⟩
section
variable {P : Program} {N : Nat} {z : World} {Q : Exit → Act → World → Prop} {E : Env} {M Mro : Hp} {ops : Array Oper} {fuel n m : Nat}
/-- as TA, of a region where each operation waits for what it reads -/
def TF (P : Program) (N : Nat) (z : World) (ops : Array Oper) (Q : Exit → Act → World → Prop) (Mro : Hp) (fuel n m : Nat) (E : Env) (M : Hp) : Prop := Tidy ops → ops.size = n → TA P N z ops Q Mro fuel (ls n m) E M
def TOF (P : Program) (N : Nat) (z : World) (ops : Array Oper) (Q : Exit → Act → World → Prop) (Mro : Hp) (fuel n m i : Nat) (E : Env) (M : Hp) : Prop := Tidy ops → ops.size = n → TO P N z ops Q Mro fuel (ls n m) i E M
theorem TC.drawF {id : Nat} (Mro : Hp) (hm : P.follows .mixedOrders = true) (n : Nat) (ht : tidyB ops = true) (hs : ops.size = n) (h : TF P N z ops Q Mro n n 0 E M) : TC P N z Q (.region id ops true) E M := by
  refine TC.draw Mro hm ?_
  have e : Array.replicate ops.size false = ls n 0 := by
    rw [hs]
    apply Array.ext'
    apply List.ext_getElem?
    intro k
    simp only [ls, Array.toList_replicate, List.getElem?_replicate, List.getElem?_map]
    by_cases hk : k < n
    · rw [List.getElem?_range hk]; simp [hk]
    · rw [List.getElem?_eq_none (by simp; omega)]; simp [hk]
  rw [e, hs]
  exact h (tidy_spec ht) hs
theorem TF.tk (i m' : Nat) {o : Oper} {d : Nat} {v : Value} (hi : ops[i]? = some o) (hg : o.guard = none) (hd : o.dst = some d) (h : Val P N z E Mro o v) (k : TF P N z ops Q Mro fuel n m' ((d, v) :: E) M)
    (hN : d < N := by exact Nat.le_of_ble_eq_true rfl) (hr : (!m.testBit i && rdy n o m) = true := by kernel_rfl) (hl : m ||| 1 <<< i = m' := by kernel_rfl)
    (hro : ∀ w, Own z w M → Own z w Mro := by repeat (first | exact Go.X.ro_refl | exact Go.X.ro_pre | refine Go.X.ro_tail ?_ | refine Go.X.ro_app ?_)) : TF P N z ops Q Mro (fuel + 1) n m E M := fun ht hs => by
  simp only [Bool.and_eq_true, Bool.not_eq_true'] at hr
  have hin : i < n := by rw [← hs]; exact (Array.getElem?_eq_some_iff.1 hi).1
  have hrd := rdy_spec.1 hr.2
  have hmem : i ∈ Region.ready .any ops (ls n m) := mem_ready.2 ⟨by rw [ls_getD, if_pos hin]; exact hr.1, o, hi, hrd⟩
  have hf : Region.free .any ops (ls n m) i = true := by
    simp only [Region.free, hi, List.all_eq_true, List.mem_range]
    intro j hj
    have hoj : ops[j]? = some ops[j] := Array.getElem?_eq_getElem hj
    by_cases hji : j = i
    · simp [hji]
    · cases hlj : (ls n m).getD j true with
      | true => simp
      | false =>
        simp only [hoj, Bool.or_eq_true, Bool.false_eq_true, or_false, beq_iff_eq, hji, false_or]
        cases hw : ops[j].after.any (fun e => Region.binds .any e && e.on == i) with
        | true => exact .inl rfl
        | false =>
          right
          refine ht.2 i j o ops[j] hi hoj (Ne.symm hji) ?_ ?_
          · rw [Bool.eq_false_iff] at hw ⊢
            intro h2
            apply hw
            simp only [waits, List.any_eq_true, Bool.and_eq_true] at h2
            obtain ⟨e, he, hb, ho⟩ := h2
            rw [Array.any_eq_true']
            exact ⟨e, by simpa using he, by simp only [Bool.and_eq_true, beq_iff_eq]; exact ⟨hb, Nat.eq_of_beq_eq_true ho⟩⟩
          · rw [Bool.eq_false_iff]
            intro h2
            simp only [waits, List.any_eq_true, Bool.and_eq_true] at h2
            obtain ⟨e, he, hb, ho⟩ := h2
            have h3 := hrd e (by simpa using he) hb
            rw [Nat.eq_of_beq_eq_true ho, ls_getD, if_pos (by omega)] at h3
            rw [ls_getD, if_pos (by omega), h3] at hlj
            cases hlj
  exact TA.take i hi hg hd hN ht.1 hf (by simpa using hmem) (by rw [ls_set, hl]) hro h (k ht hs)
theorem TF.all {rs : List Nat} (hr : rdyL n m 0 ops.toList = rs) (hne : rs ≠ []) (h : ∀ i ∈ rs, TOF P N z ops Q Mro fuel n m i E M) : TF P N z ops Q Mro (fuel + 1) n m E M := fun ht hs => by
  refine TA.all rfl ?_ fun i hi => h i ?_ ht hs
  · intro h0
    cases rs with
    | nil => exact hne rfl
    | cons i r =>
      have : i ∈ Region.ready .any ops (ls n m) := (ready_iff hs).2 (by rw [hr]; exact List.mem_cons_self ..)
      rw [h0] at this
      cases this
  · rw [← hr]; exact (ready_iff hs).1 hi
theorem TF.one (i : Nat) (hr : rdyL n m 0 ops.toList = [i]) (h : TOF P N z ops Q Mro fuel n m i E M) : TF P N z ops Q Mro (fuel + 1) n m E M :=
  TF.all hr (by simp) fun j hj => by simp at hj; subst hj; exact h
theorem TF.done (hr : rdyL n m 0 ops.toList = []) (h : AtX N z Q .normal E M) : TF P N z ops Q Mro fuel n m E M := fun ht hs =>
  TA.done (List.eq_nil_iff_forall_not_mem.2 fun j hj => by have := (ready_iff hs).1 hj; rw [hr] at this; cases this) h
theorem TOF.dz {i : Nat} (m' : Nat) {o : Oper} {R : Value → Hp → Prop} (d : Option Nat) (hi : ops[i]? = some o) (hd : o.dst = d) (hg : o.guard = none) (hN : ltN d N = true) (h : Does P N z E M o R)
    (k : ∀ v M', R v M' → (∀ w, Own z w M' → Own z w Mro) ∧ TF P N z ops Q Mro fuel n m' (putE d v E) M') (hl : m ||| 1 <<< i = m' := by kernel_rfl) : TOF P N z ops Q Mro fuel n m i E M := fun ht hs =>
  TO.does d hi hd hg hN (by rw [ls_set, hl]) h fun v M' hR => ⟨(k v M' hR).1, (k v M' hR).2 ht hs⟩
theorem TF.heap {M' : Hp} (hM : ∀ w, Own z w M → Own z w M') (h : TF P N z ops Q Mro fuel n m E M') : TF P N z ops Q Mro fuel n m E M := fun ht hs => TA.heap hM (h ht hs)
theorem TF.env {E' : Env} (hE : Sub E' E) (h : TF P N z ops Q Mro fuel n m E' M) : TF P N z ops Q Mro fuel n m E M := fun ht hs => TA.env hE (h ht hs)
end
end Go.X
