/- Plain words for the hash's beginning. -/
import Derived.Test.YtphoapajlcaoeaaES3
import Derived.Test.YtphoapajlcaoeaaE12
set_option linter.unusedVariables false
set_option linter.unusedSimpArgs false
namespace Go.X
open Go
def txtB : List UInt8 := [115, 111, 109, 101, 112, 115, 101, 117, 100, 111, 114, 97, 110, 100, 111, 109, 108, 121, 103, 101, 110, 101, 114, 97, 116, 101, 100, 98, 121, 116, 101, 115]
def bw (k : Nat) : Nat → Int
  | 0 => 0
  | i + 1 => bitsOf .or .u64 (IntKind.u64.wrap (bw k i * 2 ^ 8)) ((txtB.getD (8 * k + i) 0).toNat : Int)
def bx (k i j : Nat) : Int := if j < k then bw j 8 else if j = k then bw k i else 0
def begR (k i : Nat) : List Value := [.int .u64 (bx k i 0), .int .u64 (bx k i 1), .int .u64 (bx k i 2), .int .u64 (bx k i 3)]
theorem begR_nth {k i : Nat} (h : k < 4) : nth (begR k i) k = some (.int .u64 (bw k i)) := by
  have hk : k = 0 ∨ k = 1 ∨ k = 2 ∨ k = 3 := by omega
  rcases hk with rfl | rfl | rfl | rfl <;> simp [begR, bx, nth]
theorem begR_splice {k i : Nat} (h : k < 4) : splice (begR k i).toArray k [.int .u64 (bw k (i + 1))] = (begR k (i + 1)).toArray := by
  have hk : k = 0 ∨ k = 1 ∨ k = 2 ∨ k = 3 := by omega
  rcases hk with rfl | rfl | rfl | rfl <;> simp [begR, bx, splice]
theorem begR_next {k : Nat} : begR k 8 = begR (k + 1) 0 := by
  have h : ∀ j, bx k 8 j = bx (k + 1) 0 j := fun j => by
    unfold bx
    by_cases h1 : j < k
    · rw [if_pos h1, if_pos (by omega)]
    · rw [if_neg h1]
      by_cases h2 : j = k
      · rw [if_pos h2, if_pos (by omega), h2]
      · rw [if_neg h2, if_neg (by omega)]
        split <;> rfl
  simp only [begR, h]
theorem bw_0 : bw 0 8 = 0x736f6d6570736575 := by decide +kernel
theorem bw_1 : bw 1 8 = 0x646f72616e646f6d := by decide +kernel
theorem bw_2 : bw 2 8 = 0x6c7967656e657261 := by decide +kernel
theorem bw_3 : bw 3 8 = 0x7465646279746573 := by decide +kernel
def w0 : W4 := ⟨0x736f6d6570736575, 0x646f72616e646f6d, 0x6c7967656e657261, 0x7465646279746573⟩
theorem begR_end : begR 4 0 = [.int .u64 w0.a, .int .u64 w0.b, .int .u64 w0.c, .int .u64 w0.d] := by
  simp [begR, bx, bw_0, bw_1, bw_2, bw_3, w0]
theorem begR_0 : begR 0 0 = [.int .u64 0, .int .u64 0, .int .u64 0, .int .u64 0] := by simp [begR, bx, bw]
/-- one of a key's two words -/
def kk (k : K2) (j : Nat) : Int := if j % 2 = 0 then k.a else k.b
def newX (k : K2) (i j : Nat) (c : Int) : Int := if j < i then xor64 c (kk k j) else c
def newR (k : K2) (i : Nat) : List Value := [.int .u64 (newX k i 0 w0.a), .int .u64 (newX k i 1 w0.b), .int .u64 (newX k i 2 w0.c), .int .u64 (newX k i 3 w0.d), .slice none 0 0, .int .i64 0]
def wj (j : Nat) : Int := match j with | 0 => w0.a | 1 => w0.b | 2 => w0.c | _ => w0.d
theorem newR_nth {k : K2} {i : Nat} (h : i < 4) : nth (newR k i) i = some (.int .u64 (wj i)) := by
  have hk : i = 0 ∨ i = 1 ∨ i = 2 ∨ i = 3 := by omega
  rcases hk with rfl | rfl | rfl | rfl <;> simp [newR, newX, nth, wj]
theorem newR_splice {k : K2} {i : Nat} (h : i < 4) : splice (newR k i).toArray i [.int .u64 (xor64 (wj i) (kk k i))] = (newR k (i + 1)).toArray := by
  have hk : i = 0 ∨ i = 1 ∨ i = 2 ∨ i = 3 := by omega
  rcases hk with rfl | rfl | rfl | rfl <;> simp [newR, newX, splice, wj]
theorem newR_end (k : K2) : newR k 4 = [.int .u64 (keyW k.a k.b).a, .int .u64 (keyW k.a k.b).b, .int .u64 (keyW k.a k.b).c, .int .u64 (keyW k.a k.b).d, .slice none 0 0, .int .i64 0] := by
  simp [newR, newX, keyW, w0, kk]
theorem kk_nth (k : K2) (i : Nat) : nth [Value.int .u64 k.a, .int .u64 k.b] (i % 2) = some (.int .u64 (kk k i)) := by
  have h : i % 2 = 0 ∨ i % 2 = 1 := by omega
  rcases h with h | h <;> simp [kk, h, nth]
theorem get8_drop (l : List UInt8) (o : Nat) : get8 (l.drop o) 0 = get8 l o := by
  have h : ∀ n, getTo (l.drop o) 0 n = getTo l o n := fun n => by
    induction n with
    | zero => rfl
    | succ n ih => simp only [getTo, ih]; simp [List.getD_eq_getElem?_getD]
  exact h 8
theorem drop_8 (l : List UInt8) (j : Nat) : (l.drop (8 * j)).drop 8 = l.drop (8 * (j + 1)) := by rw [List.drop_drop]; congr 1
theorem rem_nat (i n : Nat) : (i : Int).tmod (n : Int) = ((i % n : Nat) : Int) := by
  rw [Int.tmod_eq_emod_of_nonneg (by omega), Int.natCast_emod]
end Go.X
namespace Go.X
theorem takeW_eq {m : Int} {w v : W4} (h : rounds 2 { w with d := xor64 w.d m } = v) : takeW m w = ⟨xor64 v.a m, v.b, v.c, v.d⟩ := by subst h; rfl
theorem endW_eq {w v : W4} (h : rounds 4 { w with c := xor64 w.c 255 } = v) : endW w = xor64 (xor64 (xor64 v.a v.b) v.c) v.d := by subst h; rfl
end Go.X
namespace Go.X
open Go Go.RowKit
theorem slOk.cap {s : Sl} {n : Nat} {xs : List Value} (h : slOk s 1 n xs) : n ≤ slC s := by
  obtain ⟨h1, h2⟩ := h
  cases s with
  | none => simp at h2; simp [slC]; omega
  | some x => obtain ⟨b, c, sp⟩ := x; simp at h1 h2; simp [slC]; omega
theorem rdS_drop8 {M : Hp} {A : Option Addr} {l : List UInt8} {c : Nat} (h : RdS M A (bv l)) (hl : 8 ≤ l.length) (hc : l.length ≤ c) : RdS M (if c = 8 then A else A.map (·.add (8 * 1))) (bv (l.drop 8)) := by
  by_cases h8 : c = 8
  · rw [List.drop_eq_nil_of_le (by omega)]; exact .nil _ _
  · rw [if_neg h8]
    obtain ⟨b, o, rfl, hR⟩ := RdS.get h (by simp; omega)
    rw [Option.map_some, addr_add, bv_drop]
    exact .some (hR.drop 8)
theorem ro_mid {z : World} {x : Nat × Obj} {L M : Hp} : ∀ w, Own z w (L ++ x :: M) → Own z w (x :: (L ++ M)) := fun w h => h.perm List.perm_middle
theorem ro_mid2 {z : World} {x y : Nat × Obj} {L M : Hp} : ∀ w, Own z w (L ++ x :: y :: M) → Own z w (x :: y :: (L ++ M)) := fun w h => h.perm (List.perm_middle.trans (List.perm_middle.cons x))
theorem ro_dim2 {z : World} {x y : Nat × Obj} {L M : Hp} : ∀ w, Own z w (x :: y :: (L ++ M)) → Own z w (L ++ x :: y :: M) := fun w h => h.perm (List.perm_middle.trans (List.perm_middle.cons x)).symm
theorem lastB_eq (l : List UInt8) : l.drop (8 * (l.length / 8)) ++ List.replicate (7 - (l.drop (8 * (l.length / 8))).length) 0 ++ [b8 l.length] = lastB l := by
  unfold lastB
  rw [List.length_drop]
  congr 4
  omega
end Go.X
