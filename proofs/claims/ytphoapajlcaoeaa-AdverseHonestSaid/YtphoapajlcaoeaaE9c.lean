/- The engine: strings as lists of bytes. -/
import Derived.Test.YtphoapajlcaoeaaE9
set_option linter.unusedVariables false
set_option linter.unusedSimpArgs false
namespace Go.X
open Go Go.RowKit
theorem RdS.suf {M : Hp} {a : Option Addr} {ys : List Value} (L : Hp) (h : RdS M a ys) : RdS (L ++ M) a ys := h.mono fun _ hx => List.mem_append_right _ hx
theorem TC.drawM {P : Program} {N : Nat} {z : World} {Q : Exit → Act → World → Prop} {ops : Array Oper} {E : Env} {M : Hp} {id : Nat} (hm : P.follows .mixedOrders = true) (h : TA P N z ops Q M ops.size (Array.replicate ops.size false) E M) : TC P N z Q (.region id ops true) E M := TC.draw M hm h
theorem rdS_z {M : Hp} {b i m : Nat} {e : TypeId} (hi : M[i]? = some (b, row e (zrep [Value.int .u8 0] m))) : RdS M (some ⟨b, 0, none⟩) (bv (List.replicate m 0)) := by
  rw [zrep_bytes] at hi
  exact rd_all (sp := []) (by rw [List.append_nil]; exact hi)
theorem ofL_append (a b : List UInt8) : ofL a ++ ofL b = ofL (a ++ b) := by
  apply ByteArray.ext
  rw [ByteArray.data_append]
  simp [ofL]
theorem ofL_extract (l : List UInt8) (i j : Nat) : (ofL l).extract i j = ofL ((l.take j).drop i) := by
  apply ByteArray.ext
  rw [ByteArray.data_extract]
  simp [ofL, List.extract_eq_take_drop, List.drop_take]
section
variable {P : Program} {N : Nat} {z : World} {E : Env} {M : Hp}
variable {dst : Option Tmp} {ty : TypeId} {pos : String} {af : Array Edge} {gu : Option (Nat × Bool)} {t yt : TypeId} {x y : Operand}
theorem Val.addL {a b : List UInt8} (hx : ev E x = some (.string (ofL a))) (hy : ev E y = some (.string (ofL b))) (hl : a.length + b.length ≤ 9223372036854775807) : Val P N z E M ⟨dst, .binOp .add t x y yt, ty, pos, af, gu⟩ (.string (ofL (a ++ b))) := by
  rw [← ofL_append]
  exact Val.addS hx hy (by simpa using hl)
theorem Val.eqlL {a b : List UInt8} (hx : ev E x = some (.string (ofL a))) (hy : ev E y = some (.string (ofL b))) : Val P N z E M ⟨dst, .binOp .eql t x y yt, ty, pos, af, gu⟩ (.bool (decide (a = b))) := by
  have h := Val.eqlS (P := P) (N := N) (z := z) (M := M) (dst := dst) (t := t) (yt := yt) (ty := ty) (pos := pos) (af := af) (gu := gu) hx hy
  rw [str_beq, ofL_toList, ofL_toList] at h
  exact h
theorem Val.neqL {a b : List UInt8} (hx : ev E x = some (.string (ofL a))) (hy : ev E y = some (.string (ofL b))) : Val P N z E M ⟨dst, .binOp .neq t x y yt, ty, pos, af, gu⟩ (.bool (!decide (a = b))) := by
  have h := Val.neqS (P := P) (N := N) (z := z) (M := M) (dst := dst) (t := t) (yt := yt) (ty := ty) (pos := pos) (af := af) (gu := gu) hx hy
  rw [str_beq, ofL_toList, ofL_toList] at h
  exact h
theorem Val.lenL {l : List UInt8} {at_ : Array TypeId} (hx : ev E x = some (.string (ofL l))) (ha0 : at_[0]? = some t) (ht : P.underlying t = some .string) :
    Val P N z E M ⟨dst, .call ⟨.builtin .len, #[x], at_⟩, ty, pos, af, gu⟩ (.int .i64 l.length) := by
  have h := Val.lenStr (P := P) (N := N) (z := z) (M := M) (dst := dst) (ty := ty) (pos := pos) (af := af) (gu := gu) hx ha0 ht
  rw [ofL_size] at h
  exact h
theorem Val.sliceL {l : List UInt8} {i j : Nat} {lo hi : Option Operand} {il ih : Int} (hx : ev E x = some (.string (ofL l))) (ht : P.underlying t = some .string)
    (hlo : bnd E 0 lo = some il) (hhi : bnd E l.length hi = some ih) (hil : il = (i : Int)) (hih : ih = (j : Int)) (hij : i ≤ j) (hj : j ≤ l.length) :
    Val P N z E M ⟨dst, .slice t x lo hi none, ty, pos, af, gu⟩ (.string (ofL ((l.take j).drop i))) := by
  rw [← ofL_extract]
  exact Val.sliceStr hx ht hlo (by rw [ofL_size]; exact hhi) hil hih hij (by rw [ofL_size]; exact hj)
theorem Val.indexL {l : List UInt8} {k : IntKind} {m : Int} {i : Nat} (hx : ev E x = some (.string (ofL l))) (hy : ev E y = some (.int k m)) (ht : P.underlying t = some .string) (hm : m = (i : Int)) (hi : i < l.length) :
    Val P N z E M ⟨dst, .index t x y, ty, pos, af, gu⟩ (.int .u8 (l.getD i 0).toNat) :=
  Val.indexS hx hy ht hm (by
    have h : i < (ofL l).size := by rw [ofL_size]; exact hi
    rw [getElem?_pos (ofL l) i h]
    simp [ofL, ByteArray.getElem_eq_getElem_data, List.getD_eq_getElem?_getD, hi])
end
end Go.X
