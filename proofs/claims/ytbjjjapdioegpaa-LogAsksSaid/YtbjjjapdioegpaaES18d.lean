/- Plain words for the log: what Put and Get answer, as one function each; the reference's ways to it. -/
import Derived.Test.YtbjjjapdioegpaaES18c
set_option linter.unusedVariables false
set_option linter.unusedSimpArgs false
namespace Go.X
open Go
theorem pb_set {n : Int} {k : Nat} (hk : k < 8) : (pb n k ++ List.replicate (8 - k) 0).set k (byteAt n k) = pb n (k + 1) ++ List.replicate (8 - (k + 1)) 0 := by
  rw [set_append_ge (by simp), pb_len, Nat.sub_self]
  have e : 8 - k = (8 - (k + 1)) + 1 := by omega
  rw [e, List.replicate_succ, List.set_cons_zero, pb, List.append_assoc]
  rfl
def putP (p pl kd : Int) (d : List UInt8) : List UInt8 × Int := if mayC p pl kd d.length = true then (cellB p pl kd d, 0) else ([], 1)
structure GetRes where
  p : Int
  pl : Int
  kd : Int
  d : List UInt8
  ok : Bool
  e : Int
def getP (l : List UInt8) : GetRes :=
  if l.length ≠ 64 then ⟨0, 0, 0, [], false, 1⟩
  else if wholeB l = false then ⟨0, 0, 0, [], false, 0⟩
  else if mayL l = true ∧ againB l = l then ⟨(passOf l : Nat), (plOf l : Nat), (kdOf l : Nat), dOf l, true, 0⟩
  else ⟨0, 0, 0, [], true, 12⟩

theorem get8_head {l : List UInt8} (h : 4 ≤ l.length) : get8 ((l.take 4).drop 0 ++ [0, 0, 0, 0]) 0 = passOf l := by
  match l, h with
  | a :: b :: c :: d :: r, _ =>
    have ha : a.toNat < 256 := UInt8.toNat_lt _
    have hb : b.toNat < 256 := UInt8.toNat_lt _
    have hc : c.toNat < 256 := UInt8.toNat_lt _
    have hd : d.toNat < 256 := UInt8.toNat_lt _
    have hz : (0 : UInt8).toNat = 0 := rfl
    simp only [passOf, get8, getTo, List.take_succ_cons, List.take_zero, List.drop_zero, List.cons_append, List.nil_append, List.getD_cons_zero, List.getD_cons_succ, Nat.zero_add, hz]
    simp only [Nat.reduceMul, Nat.reducePow, Nat.mul_one]
    omega
theorem body_ref {p pl kd : Int} {d : List UInt8} (h : 0 ≤ pl ∧ pl ≤ 4096) :
    ((put8 p).take 4).drop 0 ++ ((put8 pl).take 2).drop 0 ++ [b8 kd, b8 d.length] ++ d ++ List.replicate (48 - d.length) 0 = bodyB p pl kd d := by
  have e : (put8 pl).take 2 = [b8 pl, b8 (pl / 256)] := by simp [put8, pb, byteAt]
  simp only [bodyB, headB, List.drop_zero, e, List.append_assoc, List.cons_append, List.nil_append]
theorem cell_ref {p pl kd : Int} {d : List UInt8} : bodyB p pl kd d ++ ((put8 (sum18 (bodyB p pl kd d) : Nat)).take 4).drop 0 ++ [0, 0, 0, markB p] = cellB p pl kd d := by
  simp only [cellB, List.drop_zero, List.append_assoc]
  rfl
/-- the reference's question: is it not whole? -/
theorem whole_ref (l : List UInt8) : ((decide (((passOf l : Nat) : Int) = 0) || decide (((passOf l : Nat) : Int) > 250)) || decide (((l.getD 63 0).toNat : Int) ≠ ((markB (passOf l : Nat)).toNat : Int))) = !wholeB l := by
  simp only [wholeB]
  by_cases h1 : ((passOf l : Nat) : Int) = 0
  · simp [h1]
  · by_cases h2 : ((passOf l : Nat) : Int) > 250
    · have : ¬ ((passOf l : Nat) : Int) ≤ 250 := by omega
      simp [h1, h2, this]
    · have h3 : (1 : Int) ≤ ((passOf l : Nat) : Int) := by omega
      have h4 : ((passOf l : Nat) : Int) ≤ 250 := by omega
      by_cases h5 : ((l.getD 63 0).toNat : Int) = ((markB (passOf l : Nat)).toNat : Int)
      · simp only [h1, h2, h3, h4, h5]; simp
      · simp only [h1, h2, h3, h4, h5]; simpa using h5
end Go.X
namespace Go.X
open Go
theorem getP_1 {l : List UInt8} (h : l.length ≠ 64) : getP l = ⟨0, 0, 0, [], false, 1⟩ := by rw [getP, if_pos h]
theorem getP_2 {l : List UInt8} (h : l.length = 64) (hw : wholeB l = false) : getP l = ⟨0, 0, 0, [], false, 0⟩ := by rw [getP, if_neg (by omega), if_pos hw]
theorem getP_3 {l : List UInt8} (h : l.length = 64) (hw : wholeB l = true) (hq : ¬ (mayL l = true ∧ againB l = l)) : getP l = ⟨0, 0, 0, [], true, 12⟩ := by
  rw [getP, if_neg (by omega), if_neg (by rw [hw]; decide), if_neg hq]
theorem getP_4 {l : List UInt8} (h : l.length = 64) (hw : wholeB l = true) (hq : mayL l = true ∧ againB l = l) : getP l = ⟨(passOf l : Nat), (plOf l : Nat), (kdOf l : Nat), dOf l, true, 0⟩ := by
  rw [getP, if_neg (by omega), if_neg (by rw [hw]; decide), if_pos hq]
theorem passOf_lt (l : List UInt8) : passOf l < 4294967296 := Nat.mod_lt _ (by decide)
theorem whole_le {l : List UInt8} (h : wholeB l = true) : passOf l ≤ 250 := by
  simp only [wholeB, Bool.and_eq_true, decide_eq_true_eq] at h
  omega
theorem dOf_alt (l : List UInt8) : (l.take (8 + nOf l)).drop 8 = dOf l := by
  rw [List.drop_take, dOf, Nat.add_sub_cancel_left]
theorem putP_yes {p pl kd : Int} {d : List UInt8} (h : mayC p pl kd d.length = true) : putP p pl kd d = (cellB p pl kd d, 0) := by rw [putP, if_pos h]
theorem putP_no {p pl kd : Int} {d : List UInt8} (h : mayC p pl kd d.length = false) : putP p pl kd d = ([], 1) := by rw [putP, if_neg (by rw [h]; decide)]
theorem putP_iff {l : List UInt8} (hl : l.length = 64) : ((putP (passOf l : Nat) (plOf l : Nat) (kdOf l : Nat) (dOf l)).2 = 0 ∧ (putP (passOf l : Nat) (plOf l : Nat) (kdOf l : Nat) (dOf l)).1 = l) ↔ (mayL l = true ∧ againB l = l) := by
  have e : mayL l = mayC (passOf l : Nat) (plOf l : Nat) (kdOf l : Nat) (dOf l).length := by rw [dOf_len hl]; rfl
  rw [e]
  cases h : mayC (passOf l : Nat) (plOf l : Nat) (kdOf l : Nat) (dOf l).length with
  | true => rw [putP_yes h]; simp [againB]
  | false => rw [putP_no h]; simp
end Go.X
