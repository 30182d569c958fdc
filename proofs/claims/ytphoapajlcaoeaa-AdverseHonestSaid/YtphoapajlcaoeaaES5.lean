/- Plain words for messages that may be; for lists put together. -/
import Derived.Test.YtphoapajlcaoeaaES4
set_option linter.unusedVariables false
set_option linter.unusedSimpArgs false
namespace Go.X
open Go Go.RowKit
abbrev Bs := Option Addr × List UInt8 × Nat
abbrev bsV (x : Bs) : Value := .slice x.1 x.2.1.length x.2.2
def cat (q : List Bs) : List UInt8 := q.flatMap (·.2.1)
theorem catS {q : List Bs} {k : Nat} {x : Bs} (h : q[k]? = some x) : cat (q.take (k + 1)) = cat (q.take k) ++ x.2.1 := by
  simp [cat, List.take_add_one, h, List.flatMap_append]
theorem cat_le (q : List Bs) (k : Nat) : (cat (q.take k)).length ≤ (cat q).length := by
  have h : cat q = cat (q.take k) ++ cat (q.drop k) := by rw [cat, cat, cat, ← List.flatMap_append, List.take_append_drop]
  rw [h, List.length_append]; omega
theorem cat_all (q : List Bs) : cat (q.take q.length) = cat q := by rw [List.take_length]
theorem cat3 (A B C : Option Addr) (a b c : List UInt8) (x y z : Nat) : cat [(A, a, x), (B, b, y), (C, c, z)] = a ++ b ++ c := by simp [cat]
def dR (k : K2) (lab : List UInt8) (n : Int) (i : Nat) : List Value := [.int .u64 (if 0 < i then derive1 k lab n 0 else 0), .int .u64 (if 1 < i then derive1 k lab n 1 else 0)]
theorem dR_splice {k : K2} {lab : List UInt8} {n : Int} {i : Nat} (h : i < 2) : splice (dR k lab n i).toArray i [.int .u64 (derive1 k lab n i)] = (dR k lab n (i + 1)).toArray := by
  have hk : i = 0 ∨ i = 1 := by omega
  rcases hk with rfl | rfl <;> simp [dR, splice]
theorem dR_0 (k : K2) (lab : List UInt8) (n : Int) : dR k lab n 0 = [.int .u64 0, .int .u64 0] := by simp [dR]
theorem dR_2 (k : K2) (lab : List UInt8) (n : Int) : dR k lab n 2 = [.int .u64 (deriveK k lab n).a, .int .u64 (deriveK k lab n).b] := by simp [dR, deriveK]
theorem mayM_iff {m : Ms} : mayM m = true ↔ (1 ≤ m.kind ∧ m.kind ≤ 3) ∧ (0 ≤ m.who ∧ m.who ≤ 15) ∧ (0 ≤ m.gen ∧ m.gen ≤ 60000) ∧ (1 ≤ m.seq ∧ m.seq ≤ 1099511627776) ∧ (0 ≤ m.epoch ∧ m.epoch ≤ 1099511627776) ∧ (0 ≤ m.metric ∧ (m.kind = 1 → m.metric ≤ 3) ∧ (m.kind ≠ 1 → m.metric ≤ 0)) ∧ (0 ≤ m.value ∧ (m.kind = 1 → m.value ≤ 1099511627776) ∧ (m.kind ≠ 1 → m.value ≤ 0)) := by
  simp only [mayM, inB, Bool.and_eq_true, decide_eq_true_eq]
  by_cases h : m.kind = 1
  · simp only [h]; simp; omega
  · simp only [h]; simp; omega
def tailB (m : Ms) : List Int := [m.seq, m.epoch, m.value]
def headM (m : Ms) : List UInt8 := [1, b8 m.kind, b8 m.who, b8 m.metric] ++ (put8 (IntKind.u64.wrap m.gen)).take 4
def putTo (m : Ms) (k : Nat) : List UInt8 := headM m ++ ((tailB m).take k).flatMap fun x => put8 (IntKind.u64.wrap x)
theorem putTo_S {m : Ms} {k : Nat} {x : Int} (h : (tailB m)[k]? = some x) : putTo m (k + 1) = putTo m k ++ put8 (IntKind.u64.wrap x) := by
  simp [putTo, List.take_add_one, h]
theorem putTo_len (m : Ms) {k : Nat} (h : k ≤ 3) : (putTo m k).length = 8 + 8 * k := by
  have hk : k = 0 ∨ k = 1 ∨ k = 2 ∨ k = 3 := by omega
  rcases hk with rfl | rfl | rfl | rfl <;> simp [putTo, headM, tailB]
theorem putTo_3 (m : Ms) : putTo m 3 = putM m := by simp [putTo, putM, headM, tailB]
theorem putTo_0 (m : Ms) : putTo m 0 = headM m := by simp [putTo]
end Go.X
