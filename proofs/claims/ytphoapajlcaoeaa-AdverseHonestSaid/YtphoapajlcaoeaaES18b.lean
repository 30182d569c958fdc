/- Plain words for the log: a cell comes back from its bytes. -/
import Derived.Test.YtphoapajlcaoeaaES18
set_option linter.unusedVariables false
namespace Go.X
open Go

theorem b8_nat (x : Int) : (b8 x).toNat = (x % 256).toNat := by have := b8_toNat x; omega
theorem byteAt_nat (n : Int) (k : Nat) : (byteAt n k).toNat = ((n / 2 ^ (8 * k)) % 256).toNat := b8_nat _

def restB (p pl kd : Int) (d : List UInt8) : List UInt8 := List.replicate (48 - d.length) 0 ++ ((put8 (sum18 (bodyB p pl kd d) : Nat)).take 4 ++ ([0, 0, 0] ++ [markB p]))
theorem cell_head (p pl kd : Int) (d : List UInt8) : cellB p pl kd d = byteAt p 0 :: byteAt p 1 :: byteAt p 2 :: byteAt p 3 :: b8 pl :: b8 (pl / 256) :: b8 kd :: b8 d.length :: (d ++ restB p pl kd d) := by
  have e : (put8 p).take 4 = [byteAt p 0, byteAt p 1, byteAt p 2, byteAt p 3] := by simp [put8, pb]
  have h : headB p pl kd d = [byteAt p 0, byteAt p 1, byteAt p 2, byteAt p 3, b8 pl, b8 (pl / 256), b8 kd, b8 d.length] := by simp [headB, e]
  simp only [cellB, restB]
  generalize hs : (put8 (sum18 (bodyB p pl kd d) : Nat)).take 4 = s
  simp [bodyB, h]

theorem mayC_iff {p pl kd : Int} {n : Nat} : mayC p pl kd n = true ↔ (1 ≤ p ∧ p ≤ 250 ∧ 0 ≤ pl ∧ pl ≤ 4096 ∧ 1 ≤ kd ∧ kd ≤ 3 ∧ n ≤ 48) := by
  simp [mayC]; omega

theorem getD_last (L : List UInt8) (x : UInt8) (n : Nat) (h : L.length = n) : (L ++ [x]).getD n 0 = x := by
  simp [List.getD_eq_getElem?_getD, ← h]

section
variable {p pl kd : Int} {d : List UInt8} (hm : mayC p pl kd d.length = true)
include hm

theorem cell_pass : (passOf (cellB p pl kd d) : Int) = p := by
  obtain ⟨h1, h2, _⟩ := mayC_iff.1 hm
  have hb := fun k => byteAt_nat p k
  rw [cell_head]
  simp only [passOf, get8, getTo, List.getD_cons_zero, List.getD_cons_succ, Nat.zero_add]
  have e0 := hb 0
  have e1 := hb 1
  have e2 := hb 2
  have e3 := hb 3
  simp only [Nat.reduceMul, Int.reducePow, Nat.reducePow, Int.ediv_one, Nat.mul_one] at e0 e1 e2 e3 ⊢
  omega

theorem cell_pl : (plOf (cellB p pl kd d) : Int) = pl := by
  obtain ⟨h1, h2, h3, h4, _⟩ := mayC_iff.1 hm
  rw [cell_head]
  simp only [plOf, List.getD_cons_zero, List.getD_cons_succ]
  have e0 := b8_nat pl
  have e1 := b8_nat (pl / 256)
  omega

theorem cell_kd : (kdOf (cellB p pl kd d) : Int) = kd := by
  obtain ⟨h1, h2, h3, h4, h5, h6, _⟩ := mayC_iff.1 hm
  rw [cell_head]
  simp only [kdOf, List.getD_cons_zero, List.getD_cons_succ]
  have e0 := b8_nat kd
  omega

theorem cell_n : nOf (cellB p pl kd d) = d.length := by
  obtain ⟨h1, h2, h3, h4, h5, h6, h7⟩ := mayC_iff.1 hm
  rw [cell_head]
  simp only [nOf, List.getD_cons_zero, List.getD_cons_succ]
  have e0 := b8_nat d.length
  omega

theorem cell_d : dOf (cellB p pl kd d) = d := by
  have h := cell_n hm
  simp only [dOf, h]
  rw [cell_head]
  simp

theorem cell_last : (cellB p pl kd d).getD 63 0 = markB p := by
  obtain ⟨h1, h2, h3, h4, h5, h6, h7⟩ := mayC_iff.1 hm
  exact getD_last _ _ 63 (by simp [bodyB_len _ _ _ _ h7])

theorem cell_whole : wholeB (cellB p pl kd d) = true := by
  obtain ⟨h1, h2, _⟩ := mayC_iff.1 hm
  simp only [wholeB, cell_pass hm, cell_last hm]
  simp [h1, h2]

theorem cell_may : mayL (cellB p pl kd d) = true := by
  simp only [mayL, cell_pass hm, cell_pl hm, cell_kd hm, cell_n hm]
  exact hm

theorem cell_again : againB (cellB p pl kd d) = cellB p pl kd d := by
  simp only [againB, cell_pass hm, cell_pl hm, cell_kd hm, cell_d hm]

theorem cell_len : (cellB p pl kd d).length = 64 := cellB_len _ _ _ _ (mayC_iff.1 hm).2.2.2.2.2.2
end

theorem sumTo_set (l : List UInt8) (j : Nat) (c : UInt8) (hj : j < l.length) : ∀ k, sumTo (l.set j c) k + (if j < k then (j + 1) * ((l.getD j 0).toNat + 1) else 0) = sumTo l k + (if j < k then (j + 1) * (c.toNat + 1) else 0) := by
  intro k
  induction k with
  | zero => simp [sumTo]
  | succ k ih =>
    simp only [sumTo]
    by_cases h : j = k
    · subst h
      have e : (l.set j c).getD j 0 = c := by simp [List.getD_eq_getElem?_getD, hj]
      rw [e]
      have h1 : ¬ j < j := by omega
      have h2 : j < j + 1 := by omega
      simp only [h1, h2, if_true, if_false] at ih ⊢
      omega
    · have e : (l.set j c).getD k 0 = l.getD k 0 := by simp [List.getD_eq_getElem?_getD, h]
      rw [e]
      by_cases h3 : j < k
      · have h4 : j < k + 1 := by omega
        simp only [h3, h4, if_true] at ih ⊢
        omega
      · have h4 : ¬ j < k + 1 := by omega
        simp only [h3, h4, if_false] at ih ⊢
        omega
theorem sum_set (l : List UInt8) (j : Nat) (c : UInt8) (hj : j < l.length) : (sum18 (l.set j c) = sum18 l) ↔ c = l.getD j 0 := by
  have h := sumTo_set l j c hj l.length
  simp only [hj, if_true] at h
  simp only [sum18, List.length_set]
  constructor
  · intro e
    rw [e] at h
    have h2 : (j + 1) * ((l.getD j 0).toNat + 1) = (j + 1) * (c.toNat + 1) := by omega
    have h3 := Nat.eq_of_mul_eq_mul_left (by omega) h2
    exact UInt8.toNat_inj.1 (by omega)
  · intro e
    subst e
    omega
theorem rem_u {m : Int} {n : Nat} (hm : 0 ≤ m) : m.tmod (n : Int) = ((m.toNat % n : Nat) : Int) := by
  rw [Int.tmod_eq_emod_of_nonneg hm, Int.natCast_emod, Int.toNat_of_nonneg hm]

theorem sum_set_dec (l : List UInt8) (j : Nat) (c : UInt8) (hj : j < l.length) : Value.bool (decide (((sum18 (l.set j c) : Nat) : Int) = ((sum18 l : Nat) : Int)) == decide (((c.toNat : Nat) : Int) = (((l.getD j 0).toNat : Nat) : Int))) = Value.bool true := by
  have h := sum_set l j c hj
  have e1 : ((sum18 (l.set j c) : Nat) : Int) = ((sum18 l : Nat) : Int) ↔ sum18 (l.set j c) = sum18 l := by omega
  have e2 : ((c.toNat : Nat) : Int) = (((l.getD j 0).toNat : Nat) : Int) ↔ c = l.getD j 0 := by rw [← UInt8.toNat_inj]; omega
  rw [Value.bool.injEq, beq_iff_eq, decide_eq_decide, e1, e2]
  exact h
end Go.X
