/- Plain words: what those that are not corrupted sealed, one of each. -/
import Derived.Test.YtphoapajlcaoeaaES10
set_option linter.unusedVariables false
set_option linter.unusedSimpArgs false
namespace Go.X
open Go Go.RowKit
def vOf (vs : List Int) (j : Nat) : Int := (IntKind.u64.wrap (vs.getD j 0)).tmod 1099511627777
theorem vOf_bd (vs : List Int) (j : Nat) : 0 ≤ vOf vs j ∧ vOf vs j ≤ 1099511627776 := by
  have h : 0 ≤ IntKind.u64.wrap (vs.getD j 0) := by rw [w_u64m]; omega
  have h1 := Int.tmod_nonneg 1099511627777 h
  have h2 := Int.tmod_lt_of_pos (IntKind.u64.wrap (vs.getD j 0)) (b := 1099511627777) (by decide)
  unfold vOf
  omega
def kp (f : Nat → Int) : Nat → List Smp
  | 0 => []
  | i + 1 => kp f i ++ [⟨i, 0, 3, f i⟩]
def wt (f : Nat → Int) (k : Nat) (F : Int) : Nat → List Int
  | 0 => []
  | i + 1 => wt f k F i ++ (if i ≠ k ∨ F = 0 then [f i] else [])
@[simp] theorem kp_len (f : Nat → Int) : ∀ i, (kp f i).length = i
  | 0 => rfl
  | i + 1 => by simp [kp, kp_len f i]
theorem wt_le (f : Nat → Int) (k : Nat) (F : Int) : ∀ i, (wt f k F i).length ≤ i
  | 0 => by simp [wt]
  | i + 1 => by
    have := wt_le f k F i
    simp only [wt, List.length_append]
    split <;> simp <;> omega
theorem kp_get (f : Nat → Int) : ∀ {i j : Nat}, j < i → (kp f i)[j]? = some ⟨j, 0, 3, f j⟩
  | 0, j, h => by omega
  | i + 1, j, h => by
    simp only [kp]
    by_cases hj : j < i
    · rw [List.getElem?_append_left (by simpa using hj)]; exact kp_get f hj
    · have : j = i := by omega
      subst this
      rw [List.getElem?_append_right (by simp)]
      simp
theorem kp_mem {f : Nat → Int} {i : Nat} {x : Smp} (h : x ∈ kp f i) : ∃ j : Nat, j < i ∧ x = ⟨j, 0, 3, f j⟩ := by
  obtain ⟨j, hj⟩ := List.getElem?_of_mem h
  have hlt : j < i := by have := (List.getElem?_eq_some_iff.1 hj).1; simpa using this
  rw [kp_get f hlt] at hj
  exact ⟨j, hlt, (Option.some.inj hj).symm⟩
theorem kp_no (f : Nat → Int) (i : Nat) : (kp f i).any (fun x => sameS x (i : Nat) 0 3) = false := by
  rw [List.any_eq_false]
  intro x hx
  obtain ⟨j, hj, rfl⟩ := kp_mem hx
  have hne : ((j : Nat) : Int) ≠ (i : Nat) := by omega
  simp [sameS, hne]
theorem kp_yes (f : Nat → Int) (i : Nat) : (kp f (i + 1)).any (fun x => sameS x (i : Nat) 0 3) = true := by
  rw [List.any_eq_true]
  exact ⟨⟨i, 0, 3, f i⟩, by simp [kp], by simp [sameS]⟩
theorem honIn_kp (f : Nat → Int) (n w : Nat) (bad : Bool) : ∀ j, j ≤ n → honIn (kp f n) (w : Nat) 0 3 bad j = if bad = false ∧ w < j then [f w] else []
  | 0, _ => by simp [honIn]
  | j + 1, h => by
    have ih := honIn_kp f n w bad j (by omega)
    have hg := kp_get f (i := n) (j := j) (by omega)
    by_cases hc : bad = false ∧ j = w
    · obtain ⟨h1, h2⟩ := hc
      subst h2
      rw [hon_t hg (by simp [selS, h1]), ih, if_neg (by omega), if_pos ⟨h1, by omega⟩]
      rfl
    · rw [hon_f hg ?_, ih]
      · by_cases hb : bad = false
        · have : j ≠ w := fun e => hc ⟨hb, e⟩
          congr 1
          simp [hb]; omega
        · rw [if_neg (fun h => hb h.1), if_neg (fun h => hb h.1)]
      · by_cases hb : bad = false
        · have hne : ((j : Nat) : Int) ≠ (w : Nat) := fun e => hc ⟨hb, by omega⟩
          simp [selS, hne]
        · cases bad <;> simp [selS] at hb ⊢
theorem honIn_4 (f : Nat → Int) (n w : Nat) (bad : Bool) : ∀ j, j ≤ n → honIn (kp f n) (w : Nat) 0 4 bad j = []
  | 0, _ => by simp [honIn]
  | j + 1, h => by
    rw [hon_f (kp_get f (i := n) (j := j) (by omega)) (by simp [selS])]
    exact honIn_4 f n w bad j (by omega)
theorem hon_4 (l : List Bool) (f : Nat → Int) (n : Nat) : hon l (kp f n) 0 4 = [] := by
  have h : ∀ w, honTo l (kp f n) 0 4 w = [] := fun w => by
    induction w with
    | zero => rfl
    | succ w ih => rw [honTo, ih, kp_len, honIn_4 f n w _ n (Nat.le_refl _)]; rfl
  exact h _
theorem hon_3 (l : List Bool) (f : Nat → Int) (n k : Nat) (F : Int) (hn : n ≤ l.length) (hl : ∀ w, w < l.length → (l.getD w false = false ↔ (w ≠ k ∨ F = 0))) : hon l (kp f n) 0 3 = wt f k F n := by
  have h : ∀ w, w ≤ l.length → honTo l (kp f n) 0 3 w = wt f k F (min w n) := fun w => by
    induction w with
    | zero => intro _; simp [honTo, wt]
    | succ w ih =>
      intro hw
      rw [honTo, ih (by omega), kp_len, honIn_kp f n w _ n (Nat.le_refl _)]
      by_cases hwn : w < n
      · rw [Nat.min_eq_left (by omega), Nat.min_eq_left (by omega), wt]
        congr 1
        have := hl w (by omega)
        by_cases hc : l.getD w false = false
        · rw [if_pos ⟨hc, hwn⟩, if_pos (this.1 hc)]
        · rw [if_neg (fun h => hc h.1), if_neg (fun h => hc (this.2 h))]
      · rw [if_neg (fun h => hwn h.2), Nat.min_eq_right (by omega), Nat.min_eq_right (by omega), List.append_nil]
  rw [hon, h _ (Nat.le_refl _), Nat.min_eq_right hn]
/-- the collectors behind i samples -/
def Stands (ss : List Sr) (N i : Nat) : Prop := ss.length = N ∧ ∀ (j : Nat) (r : Sr), ss[j]? = some r → r.w = j ∧ r.g = 0 ∧ r.q = if j < i then 1 else 0
theorem Stands.at {ss : List Sr} {N i : Nat} (h : Stands ss N i) (hi : i < N) : ∃ sb : Nat, ss[i]? = some ⟨sb, i, 0, 0⟩ := by
  obtain ⟨h1, h2⟩ := h
  have hg : ss[i]? = some ss[i] := List.getElem?_eq_getElem (by omega)
  obtain ⟨e1, e2, e3⟩ := h2 i _ hg
  rw [if_neg (by omega)] at e3
  refine ⟨ss[i].b, ?_⟩
  rw [hg]
  congr 1
  cases hr : ss[i]
  rw [hr] at e1 e2 e3
  simp only at e1 e2 e3
  simp [e1, e2, e3]
theorem Stands.next {ss : List Sr} {N i sb : Nat} (h : Stands ss N i) (hi : i < N) : Stands (ss.set i ⟨sb, i, 0, 1⟩) N (i + 1) := by
  obtain ⟨h1, h2⟩ := h
  refine ⟨by simpa using h1, fun j r hj => ?_⟩
  rw [List.getElem?_set] at hj
  split at hj
  · rename_i e
    subst e
    rw [if_pos (by omega)] at hj
    simp at hj; subst hj
    exact ⟨rfl, rfl, by simp⟩
  · obtain ⟨e1, e2, e3⟩ := h2 j r hj
    refine ⟨e1, e2, ?_⟩
    rw [e3]
    by_cases hji : j < i
    · rw [if_pos hji, if_pos (by omega)]
    · rw [if_neg hji, if_neg (by omega)]
end Go.X
namespace Go.X
open Go Go.RowKit
theorem wt_t {f : Nat → Int} {k i : Nat} {F : Int} (h : i ≠ k ∨ F = 0) : wt f k F (i + 1) = wt f k F i ++ [f i] := by rw [wt, if_pos h]
theorem wt_f {f : Nat → Int} {k i : Nat} {F : Int} (h : ¬ (i ≠ k ∨ F = 0)) : wt f k F (i + 1) = wt f k F i := by rw [wt, if_neg h, List.append_nil]
theorem memT {a b c x : Nat × Obj} {L S R : Hp} : x ∈ (a :: (L ++ (b :: c :: (S ++ (x :: R))))) := by simp
theorem ro_dn {z : World} {a b c x : Nat × Obj} {L S T M : Hp} : ∀ w, Own z w (a :: (L ++ (b :: c :: (S ++ (x :: (T ++ M)))))) → Own z w (T ++ (a :: (L ++ (b :: c :: (S ++ (x :: M)))))) := fun w h => by
  have h1 := ro_mv (A := a :: (L ++ (b :: c :: (S ++ [x])))) (L := T) (R := M) w (by simpa using h)
  simpa using h1
theorem ro_up {z : World} {a b c x : Nat × Obj} {L S T M : Hp} : ∀ w, Own z w (T ++ (a :: (L ++ (b :: c :: (S ++ (x :: M)))))) → Own z w (a :: (L ++ (b :: c :: (S ++ (x :: (T ++ M)))))) := fun w h => by
  have h1 := ro_mv (A := T) (L := a :: (L ++ (b :: c :: (S ++ [x])))) (R := M) w (by simpa using h)
  simpa using h1
theorem set_app1 {L H : Hp} {j : Nat} {y a : Nat × Obj} : (a :: (L ++ H)).set (L.length + j + 1) y = a :: (L ++ H.set j y) := by
  show a :: ((L ++ H).set (L.length + j) y) = _
  rw [set_app]
theorem rep_get {N k : Nat} (h : k < N) : (List.replicate N false)[k]? = some false := by simp [h]
theorem lst_2 {N k : Nat} {F : Int} {l2 : List Bool} {r : Int} (hF : 0 ≤ F) (hk : k < N) (h : (((false = true ∨ ((0 : Nat) : Int) < F) ∧ r = 0 ∧ l2 = (List.replicate N false).set k true) ∨ (¬ (false = true ∨ ((0 : Nat) : Int) < F) ∧ r = 9 ∧ l2 = List.replicate N false))) :
    l2.length = N ∧ (r = 0 ↔ 0 < F) ∧ ∀ w, w < l2.length → (l2.getD w false = false ↔ (w ≠ k ∨ F = 0)) := by
  rcases h with ⟨h1, rfl, rfl⟩ | ⟨h1, rfl, rfl⟩
  · have hF1 : 0 < F := by simpa using h1
    refine ⟨by simp, by simp [hF1], fun w hw => ?_⟩
    simp only [List.length_set, List.length_replicate] at hw
    rw [List.getD_eq_getElem?_getD, List.getElem?_set]
    by_cases hkw : k = w
    · subst hkw; simp [hk]; omega
    · simp [hkw, hw]; omega
  · have hF1 : F = 0 := by simp at h1; omega
    refine ⟨by simp, by simp [hF1], fun w hw => ?_⟩
    simp only [List.length_replicate] at hw
    rw [List.getD_eq_getElem?_getD]
    simp [hw, hF1]
end Go.X
namespace Go.X
open Go Go.RowKit
theorem ro_eq {z : World} {M M' : Hp} (h : M = M') : ∀ w, Own z w M → Own z w M' := fun w hw => h ▸ hw
theorem ro_bx {z : World} {a b c x : Nat × Obj} {L S R : Hp} : ∀ w, Own z w (a :: (L ++ (b :: c :: (S ++ (x :: R))))) → Own z w [x] := fun w h => h.sublist (by
  refine List.singleton_sublist.2 ?_
  simp)
end Go.X
namespace Go.X
open Go Go.RowKit
theorem ro_st {z : World} {a b y : Nat × Obj} {L R : Hp} : ∀ w, Own z w ((a :: (L ++ (b :: R))).set (L.length + 0 + 1) y) → Own z w (a :: (L ++ (y :: R))) := fun w h => by
  have h2 := set_app1 (L := L) (H := b :: R) (j := 0) (y := y) (a := a)
  exact Eq.mp (congrArg (Own z w) h2) h
theorem ro_bxs {z : World} {a b c x y : Nat × Obj} {L S R : Hp} : ∀ w, Own z w ((a :: (L ++ (b :: c :: (S ++ (x :: R))))).set (L.length + 0 + 1) y) → Own z w [x] := fun w h => ro_bx w (ro_st w h)
end Go.X
