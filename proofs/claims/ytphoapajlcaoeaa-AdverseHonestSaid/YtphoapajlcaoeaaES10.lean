/- Plain words: how many are bad, and in which order they are told. -/
import Derived.Test.YtphoapajlcaoeaaES9
set_option linter.unusedVariables false
set_option linter.unusedSimpArgs false
namespace Go.X
open Go Go.RowKit
theorem badTo_count (l : List Bool) : ∀ n, n ≤ l.length → (badTo l n).length = (l.take n).count true
  | 0, _ => by simp [badTo]
  | n + 1, h => by
    have ih := badTo_count l n (by omega)
    have hx : l[n]? = some l[n] := List.getElem?_eq_getElem (by omega)
    rw [List.take_add_one, hx, List.count_append, ← ih]
    cases hb : l[n] with
    | true => rw [badTo_t (x := true) (by rw [hx, hb]) rfl]; simp
    | false => rw [badTo_f (x := false) (by rw [hx, hb]) rfl]; simp
theorem bads_count (l : List Bool) : (bads l).length = l.count true := by
  rw [bads, badTo_count l _ (Nat.le_refl _), List.take_length]
theorem bads_set {l : List Bool} {k : Nat} (h : l[k]? = some false) : (bads (l.set k true)).length = (bads l).length + 1 := by
  obtain ⟨hk, hv⟩ := List.getElem?_eq_some_iff.1 h
  rw [bads_count, bads_count, List.set_eq_take_append_cons_drop, if_pos hk, List.count_append, List.count_cons]
  have e : l = l.take k ++ false :: l.drop (k + 1) := by
    rw [← hv, ← List.drop_eq_getElem_cons hk, List.take_append_drop]
  have e2 : l.count true = (l.take k).count true + (l.drop (k + 1)).count true := by
    conv => lhs; rw [e]
    rw [List.count_append, List.count_cons]; simp
  rw [e2]; simp; omega
theorem set_same {l : List Bool} {k : Nat} (h : l[k]? = some true) : l.set k true = l := by
  obtain ⟨hk, hv⟩ := List.getElem?_eq_some_iff.1 h
  conv => lhs; rw [← hv]
  exact List.set_getElem_self hk
theorem badTo_mem {l : List Bool} : ∀ {n : Nat} {x : Int}, x ∈ badTo l n → ∃ q : Nat, x = q ∧ q < n ∧ l.getD q false = true
  | 0, x, h => by simp [badTo] at h
  | n + 1, x, h => by
    simp only [badTo, List.mem_append] at h
    rcases h with h | h
    · obtain ⟨q, h1, h2, h3⟩ := badTo_mem h
      exact ⟨q, h1, by omega, h3⟩
    · split at h
      · simp at h; exact ⟨n, h, by omega, by assumption⟩
      · simp at h
theorem badTo_sorted (l : List Bool) : ∀ n, (badTo l n).Pairwise (· < ·)
  | 0 => by simp [badTo]
  | n + 1 => by
    simp only [badTo]
    refine List.pairwise_append.2 ⟨badTo_sorted l n, by split <;> simp, fun x hx y hy => ?_⟩
    obtain ⟨q, h1, h2, _⟩ := badTo_mem hx
    split at hy
    · simp at hy; omega
    · simp at hy
theorem bads_get {l : List Bool} {j : Nat} {x : Int} (h : (bads l)[j]? = some x) : ∃ q : Nat, x = q ∧ q < l.length ∧ l[q]? = some true := by
  obtain ⟨q, h1, h2, h3⟩ := badTo_mem (List.mem_of_getElem? h)
  refine ⟨q, h1, h2, ?_⟩
  rw [List.getD_eq_getElem?_getD, List.getElem?_eq_getElem h2] at h3
  rw [List.getElem?_eq_getElem h2]
  simpa using h3
theorem bads_lt {l : List Bool} {i j : Nat} {x y : Int} (hij : i < j) (hx : (bads l)[i]? = some x) (hy : (bads l)[j]? = some y) : x < y := by
  obtain ⟨h1, rfl⟩ := List.getElem?_eq_some_iff.1 hx
  obtain ⟨h2, rfl⟩ := List.getElem?_eq_some_iff.1 hy
  exact List.pairwise_iff_getElem.1 (badTo_sorted l l.length) i j h1 h2 hij
theorem hp_self {H : Hp} {j : Nat} {x : Nat × Obj} (h : H[j]? = some x) : H.set j x = H := by
  obtain ⟨hk, hv⟩ := List.getElem?_eq_some_iff.1 h
  rw [← hv]
  exact List.set_getElem_self hk
theorem ro_keep2 {z : World} {a b c x : Nat × Obj} {L M : Hp} : ∀ w, Own z w (a :: b :: c :: (L ++ x :: M)) → Own z w (x :: a :: b :: M) := fun w h => by
  have h1 : Own z w ([x] ++ ((a :: b :: c :: L) ++ M)) := ro_mv (A := a :: b :: c :: L) (L := [x]) w h
  refine h1.sublist ?_
  simp only [List.cons_append, List.nil_append]
  exact ((((List.sublist_append_right L M).cons c).cons_cons b).cons_cons a).cons_cons x
theorem bads_0 (n : Nat) : (bads (List.replicate n false)).length = 0 := by rw [bads_count, List.count_eq_zero]; simp
theorem ro_d4 {z : World} {a b c d : Nat × Obj} {L M : Hp} : ∀ w, Own z w (a :: b :: c :: d :: (L ++ M)) → Own z w (a :: b :: c :: d :: M) := fun w h =>
  h.sublist ((((List.sublist_append_right L M).cons_cons d).cons_cons c).cons_cons b |>.cons_cons a)
theorem pad_get {l : List Bool} {k n : Nat} {y : Bool} (h : l[k]? = some y) : (l ++ List.replicate n false)[k]? = some y := by
  rw [List.getElem?_append_left (List.getElem?_eq_some_iff.1 h).1]; exact h
theorem pad_set {l : List Bool} {k n : Nat} (h : k < l.length) : (l ++ List.replicate n false).set k true = l.set k true ++ List.replicate n false := by
  rw [List.set_append_left _ _ h]
end Go.X
