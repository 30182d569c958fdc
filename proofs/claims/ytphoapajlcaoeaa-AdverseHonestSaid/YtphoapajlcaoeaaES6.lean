/- Plain words for what is made of numbers. -/
import Derived.Test.YtphoapajlcaoeaaES5
set_option linter.unusedVariables false
set_option linter.unusedSimpArgs false
namespace Go.X
open Go Go.RowKit
theorem rem_ex {m d : Int} (hm : 0 ≤ m) (hd : 0 < d) : ∃ r, m.tmod d = r ∧ 0 ≤ r ∧ r < d :=
  ⟨_, rfl, Int.tmod_nonneg _ hm, Int.tmod_lt_of_pos _ hd⟩
theorem quo_ex {m d : Int} (hm : 0 ≤ m) (hd : 0 < d) : ∃ r, m.tdiv d = r ∧ 0 ≤ r ∧ r ≤ m :=
  ⟨_, rfl, Int.tdiv_nonneg hm (by omega), Int.tdiv_le_self _ hm⟩
theorem list20 {q : List Int} (h : q.length = 20) : ∃ q0 q1 q2 q3 q4 q5 q6 q7 q8 q9 q10 q11 q12 q13 q14 q15 q16 q17 q18 q19, q = [q0, q1, q2, q3, q4, q5, q6, q7, q8, q9, q10, q11, q12, q13, q14, q15, q16, q17, q18, q19] := by
  match q, h with
  | [q0, q1, q2, q3, q4, q5, q6, q7, q8, q9, q10, q11, q12, q13, q14, q15, q16, q17, q18, q19], _ => exact ⟨q0, q1, q2, q3, q4, q5, q6, q7, q8, q9, q10, q11, q12, q13, q14, q15, q16, q17, q18, q19, rfl⟩
theorem set_bd {q : List Int} {i : Nat} {r : Int} (h : ∀ x ∈ q, 0 ≤ x ∧ x < 100000) (hr : 0 ≤ r ∧ r < 100000) : ∀ x ∈ q.set i r, 0 ≤ x ∧ x < 100000 := fun x hx => by
  rcases List.mem_or_eq_of_mem_set hx with h1 | rfl
  · exact h x h1
  · exact hr
def tR (a b : Int) (i : Nat) (x0 x1 : Int) : List Int := [if 0 < i then x0 else a, if 1 < i then x1 else b]
theorem ts_Z {k : Nat} {x : Int} (hx : cfZ.ts[k]? = some x) : ((k : Int) < cfZ.m → 1 ≤ x ∧ x ≤ 1099511627776) ∧ (cfZ.m ≤ k → x = 0) := by
  match k, hx with
  | 0, hx => cases hx; simp [cfZ]
  | 1, hx => cases hx; simp [cfZ]
  | 2, hx => cases hx; simp [cfZ]
  | 3, hx => cases hx; simp [cfZ]
  | k + 4, hx => simp [Cf.ts] at hx
theorem nth_map {f : Int → Value} {zs : List Int} {k : Nat} {x : Int} (h : zs[k]? = some x) : nth (zs.map f) k = some (f x) := by rw [nth_eq, List.getElem?_map, h]; rfl
def tg (c : Cf) : Prop := ∀ (k : Nat) (x : Int), c.ts[k]? = some x → ((k : Int) < c.m → 1 ≤ x ∧ x ≤ 1099511627776) ∧ (c.m ≤ k → x = 0)
theorem tg_ok {c : Cf} (h : OkC c) : tg c := fun k x hx => ts_ok h hx
theorem tg_Z : tg cfZ := fun k x hx => ts_Z hx
theorem quo3 {n : Int} (h : 0 ≤ n ∧ n ≤ 1000) : -1 ≤ (n - 1).tdiv 3 ∧ (n - 1).tdiv 3 ≤ 1000 := by
  by_cases h0 : n = 0
  · subst h0; decide
  · rw [Int.tdiv_eq_ediv_of_nonneg (by omega)]; omega
end Go.X
