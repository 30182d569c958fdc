/- The engine: a cell that came in. -/
import Derived.Test.YtbjjjapdioegpaaE9
set_option linter.unusedVariables false
namespace Go.X
open Go Go.RowKit
abbrev cellSh : Sh := .fld 0 1 (.int .u32) (.fld 1 1 (.int .i64) (.fld 2 1 (.int .i64) (.fld 3 1 (.sl 1 (.int .u8)) .nil)))
theorem fits_cell {W : World} {cs : Array Value} (hs : cs.size = 4) (h : Fits W cellSh cs.toList) : ∃ (p pl kd : Int) (A : Option Addr) (l : List UInt8) (c : Nat), cs = #[.int .u32 p, .int .i64 pl, .int .i64 kd, .slice A l.length c] ∧
    (0 ≤ p ∧ p ≤ 4294967295) ∧ (-9223372036854775808 ≤ pl ∧ pl ≤ 9223372036854775807) ∧ (-9223372036854775808 ≤ kd ∧ kd ≤ 9223372036854775807) ∧ l.length ≤ c ∧ c ≤ maxLen ∧ RdS (allHp W) A (bv l) := by
  obtain ⟨xs⟩ := cs
  match xs, hs with
  | [a, b, c, d], _ =>
    obtain ⟨h1, h2, h3, h4, _⟩ := h
    obtain ⟨p, rfl, w1⟩ := fits_int h1
    obtain ⟨pl, rfl, w2⟩ := fits_int h2
    obtain ⟨kd, rfl, w3⟩ := fits_int h3
    obtain ⟨A, l, cap, e, hl, hm, hR⟩ := fits_bytes h4
    simp at e
    subst e
    exact ⟨p, pl, kd, A, l, cap, rfl, wf_u32 w1, wf_i64 w2, wf_i64 w3, hl, hm, hR⟩
end Go.X
