/- Plain words for collectors, good and bad. -/
import Derived.Test.YtphoapajlcaoeaaES6
import Derived.Test.YtphoapajlcaoeaaE16
set_option linter.unusedVariables false
set_option linter.unusedSimpArgs false
namespace Go.X
open Go Go.RowKit
structure Smp where
  who : Int
  metric : Int
  epoch : Int
  value : Int
abbrev Smp.cs (x : Smp) : List Value := [.int .i64 x.who, .int .i64 x.metric, .int .i64 x.epoch, .int .i64 x.value]
theorem Smp.cs_len (x : Smp) : x.cs.length = 4 := rfl
structure Sr where
  b : Nat
  w : Int
  g : Int
  q : Int
abbrev Sr.ptr (r : Sr) : Value := .pointer (some ⟨r.b, 0, none⟩)
/-- the places below k that are bad -/
def badTo (l : List Bool) : Nat → List Int
  | 0 => []
  | k + 1 => badTo l k ++ (if l.getD k false = true then [(k : Int)] else [])
def bads (l : List Bool) : List Int := badTo l l.length
theorem badTo_t {l : List Bool} {k : Nat} {x : Bool} (h : l[k]? = some x) (c : x = true) : badTo l (k + 1) = badTo l k ++ [(k : Int)] := by
  subst c; simp [badTo, List.getD_eq_getElem?_getD, h]
theorem badTo_f {l : List Bool} {k : Nat} {x : Bool} (h : l[k]? = some x) (c : x = false) : badTo l (k + 1) = badTo l k := by
  subst c; simp [badTo, List.getD_eq_getElem?_getD, h]
theorem badTo_le (l : List Bool) : ∀ k, (badTo l k).length ≤ k
  | 0 => by simp [badTo]
  | k + 1 => by
    have := badTo_le l k
    simp only [badTo]
    split <;> simp <;> omega
theorem one_ptr (b : Nat) : ∀ u ∈ [Value.pointer (some ⟨b, 0, none⟩)], one u = true := by intro u hu; simp at hu; subst hu; rfl
theorem one_int (k : IntKind) (n : Int) : ∀ u ∈ [Value.int k n], one u = true := by intro u hu; simp at hu; subst hu; rfl
theorem get_push {α : Type} {l : List α} {x : α} {P : Nat → α → Prop} (h : ∀ j r, l[j]? = some r → P j r) (hx : P l.length x) : ∀ j r, (l ++ [x])[j]? = some r → P j r := fun j r hj => by
  by_cases h1 : j < l.length
  · rw [List.getElem?_append_left h1] at hj; exact h j r hj
  · rw [List.getElem?_append_right (by omega)] at hj
    have h2 : j - l.length = 0 := by
      have := (List.getElem?_eq_some_iff.1 hj).1
      simp at this; omega
    rw [h2] at hj
    simp at hj
    have : j = l.length := by omega
    subst this; subst hj; exact hx
end Go.X
