/- Plain words for what was said and kept. -/
import Derived.Test.YtphoapajlcaoeaaES7
import Derived.Test.YtphoapajlcaoeaaE17
set_option linter.unusedVariables false
set_option linter.unusedSimpArgs false
namespace Go.X
open Go Go.RowKit
def sameS (x : Smp) (k me e : Int) : Bool := (decide (x.who = k) && decide (x.metric = me)) && decide (x.epoch = e)
theorem any_t {f : Smp → Bool} {kept : List Smp} {j : Nat} {x : Smp} (hx : kept[j]? = some x) (c : f x = true) : decide ((0 : Int) ≤ ((j : Nat) : Int)) = kept.any f := by
  have h : kept.any f = true := List.any_eq_true.2 ⟨x, List.mem_of_getElem? hx, c⟩
  rw [h]; simp
theorem any_f {f : Smp → Bool} {kept : List Smp} {j : Nat} (h : ∀ x ∈ kept.take j, f x = false) (hj : j = kept.length) : decide ((0 : Int) ≤ -1) = kept.any f := by
  subst hj
  rw [List.take_length] at h
  have h : kept.any f = false := List.any_eq_false.2 (fun x hx => by simp [h x hx])
  rw [h]; rfl
theorem take_no {f : Smp → Bool} {kept : List Smp} {j : Nat} {x : Smp} (h : ∀ x ∈ kept.take j, f x = false) (hx : kept[j]? = some x) (c : f x = false) : ∀ x ∈ kept.take (j + 1), f x = false := fun y hy => by
  rw [List.take_add_one, hx] at hy
  rcases List.mem_append.1 hy with h1 | h1
  · exact h y h1
  · simp at h1; subst h1; exact c
theorem one_smp (x : Smp) : ∀ u ∈ x.cs, one u = true := by intro u hu; simp at hu; rcases hu with rfl | rfl | rfl | rfl <;> rfl
def selS (x : Smp) (w me e : Int) (bad : Bool) : Bool := ((decide (x.who = w) && !bad) && decide (x.epoch = e)) && decide (x.metric = me)
/-- of one collector, the values kept among the first j -/
def honIn (kept : List Smp) (w me e : Int) (bad : Bool) : Nat → List Int
  | 0 => []
  | j + 1 => honIn kept w me e bad j ++ (match kept[j]? with | some x => if selS x w me e bad = true then [x.value] else [] | none => [])
def honTo (l : List Bool) (kept : List Smp) (me e : Int) : Nat → List Int
  | 0 => []
  | w + 1 => honTo l kept me e w ++ honIn kept (w : Nat) me e (l.getD w false) kept.length
def hon (l : List Bool) (kept : List Smp) (me e : Int) : List Int := honTo l kept me e l.length
theorem hon_t {kept : List Smp} {w me e : Int} {bad : Bool} {j : Nat} {x : Smp} (hx : kept[j]? = some x) (c : selS x w me e bad = true) : honIn kept w me e bad (j + 1) = honIn kept w me e bad j ++ [x.value] := by simp [honIn, hx, c]
theorem hon_f {kept : List Smp} {w me e : Int} {bad : Bool} {j : Nat} {x : Smp} (hx : kept[j]? = some x) (c : selS x w me e bad = false) : honIn kept w me e bad (j + 1) = honIn kept w me e bad j := by simp [honIn, hx, c]
theorem hon_S {l : List Bool} {kept : List Smp} {me e : Int} {w : Nat} {y : Bool} (hy : l[w]? = some y) : honTo l kept me e (w + 1) = honTo l kept me e w ++ honIn kept (w : Nat) me e y kept.length := by
  simp [honTo, List.getD_eq_getElem?_getD, hy]
theorem honIn_le (kept : List Smp) (w me e : Int) (bad : Bool) : ∀ j, (honIn kept w me e bad j).length ≤ j
  | 0 => by simp [honIn]
  | j + 1 => by
    have := honIn_le kept w me e bad j
    simp only [honIn, List.length_append]
    split
    · split <;> simp <;> omega
    · simp; omega
theorem honTo_le (l : List Bool) (kept : List Smp) (me e : Int) : ∀ w, (honTo l kept me e w).length ≤ w * kept.length
  | 0 => by simp [honTo]
  | w + 1 => by
    have h1 := honTo_le l kept me e w
    have h2 := honIn_le kept (w : Nat) me e (l.getD w false) kept.length
    simp only [honTo, List.length_append, Nat.add_mul]; omega
end Go.X
namespace Go.X
theorem ss4 {ss : List Sr} (h : ss.length = 4) (hw : ∀ (k : Nat) (r : Sr), ss[k]? = some r → r.w = k ∧ r.g = 0 ∧ r.q = 0) : ∃ s0 s1 s2 s3 : Nat, ss = [⟨s0, 0, 0, 0⟩, ⟨s1, 1, 0, 0⟩, ⟨s2, 2, 0, 0⟩, ⟨s3, 3, 0, 0⟩] := by
  match ss, h with
  | [⟨a0, w0, g0, q0⟩, ⟨a1, w1, g1, q1⟩, ⟨a2, w2, g2, q2⟩, ⟨a3, w3, g3, q3⟩], _ =>
    obtain ⟨e0, f0, j0⟩ := hw 0 _ rfl
    obtain ⟨e1, f1, j1⟩ := hw 1 _ rfl
    obtain ⟨e2, f2, j2⟩ := hw 2 _ rfl
    obtain ⟨e3, f3, j3⟩ := hw 3 _ rfl
    simp only at e0 f0 j0 e1 f1 j1 e2 f2 j2 e3 f3 j3
    subst e0 f0 j0 e1 f1 j1 e2 f2 j2 e3 f3 j3
    exact ⟨a0, a1, a2, a3, rfl⟩
end Go.X
