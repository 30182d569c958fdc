/- Plain words for the log: sums, bytes of numbers, cells. -/
import Derived.Test.YtphoapajlcaoeaaE7
set_option linter.unusedVariables false
namespace Go.X
open Go

/-- byte number k of a number -/
def byteAt (n : Int) (k : Nat) : UInt8 := b8 (n / 2 ^ (8 * k))
/-- the first k bytes of a number, the lowest first -/
def pb (n : Int) : Nat → List UInt8
  | 0 => []
  | k + 1 => pb n k ++ [byteAt n k]
def put8 (n : Int) : List UInt8 := pb n 8
@[simp] theorem pb_len (n : Int) (k : Nat) : (pb n k).length = k := by induction k <;> simp_all [pb]
@[simp] theorem put8_len (n : Int) : (put8 n).length = 8 := pb_len n 8

theorem shr_val {n : Int} {k : Nat} (h : 8 * k ≤ 64) : n.fdiv (2 ^ (min ((8 : Int) * (k : Int)).toNat IntKind.u64.bits)) = n / 2 ^ (8 * k) := by
  have e : min ((8 : Int) * (k : Int)).toNat IntKind.u64.bits = 8 * k := by
    simp only [IntKind.bits]; omega
  rw [e, Int.fdiv_eq_ediv_of_nonneg]
  exact Int.pow_nonneg (by decide)

/-- the sum of the first k bytes -/
def sumTo (l : List UInt8) : Nat → Nat
  | 0 => 0
  | k + 1 => sumTo l k + (k + 1) * ((l.getD k 0).toNat + 1)
def sum18 (l : List UInt8) : Nat := sumTo l l.length

theorem sumTo_le (l : List UInt8) (k : Nat) : sumTo l k ≤ 256 * k * k := by
  induction k with
  | zero => simp [sumTo]
  | succ k ih =>
    have h : (l.getD k 0).toNat < 256 := UInt8.toNat_lt _
    have h2 : (k + 1) * ((l.getD k 0).toNat + 1) ≤ (k + 1) * 256 := Nat.mul_le_mul_left _ (by omega)
    have e : 256 * (k + 1) * (k + 1) = 256 * k * k + 512 * k + 256 := by
      simp only [Nat.mul_add, Nat.add_mul, Nat.mul_one]; omega
    simp only [sumTo]
    omega
theorem sumTo_bd (l : List UInt8) (k : Nat) (hk : k ≤ 1000) : sumTo l k ≤ 256000000 := by
  have h := sumTo_le l k
  have : 256 * k * k ≤ 256 * 1000 * 1000 := Nat.mul_le_mul (Nat.mul_le_mul_left _ hk) hk
  omega
theorem term_bd (c : UInt8) (k : Nat) (hk : k ≤ 1000) : (k + 1) * (c.toNat + 1) ≤ 256256 := by
  have h : c.toNat < 256 := UInt8.toNat_lt _
  have : (k + 1) * (c.toNat + 1) ≤ 1001 * 256 := Nat.mul_le_mul (by omega) (by omega)
  omega
end Go.X
namespace Go.X
open Go
def markB (p : Int) : UInt8 := if p > 250 then 0 else b8 p
/-- the number that stands at a place: of its first k bytes -/
def getTo (l : List UInt8) (o : Nat) : Nat → Nat
  | 0 => 0
  | k + 1 => getTo l o k + (l.getD (o + k) 0).toNat * 2 ^ (8 * k)
def get8 (l : List UInt8) (o : Nat) : Nat := getTo l o 8
theorem getTo_lt (l : List UInt8) (o k : Nat) : getTo l o k < 2 ^ (8 * k) := by
  induction k with
  | zero => simp [getTo]
  | succ k ih =>
    have h : (l.getD (o + k) 0).toNat < 256 := UInt8.toNat_lt _
    have h2 : (l.getD (o + k) 0).toNat * 2 ^ (8 * k) ≤ 255 * 2 ^ (8 * k) := Nat.mul_le_mul_right _ (by omega)
    have e : 2 ^ (8 * (k + 1)) = 256 * 2 ^ (8 * k) := by rw [Nat.mul_add, Nat.pow_add]; omega
    simp only [getTo]
    omega
theorem pow_le64 {k : Nat} (hk : k < 8) : 2 ^ (8 * k) ≤ 2 ^ 56 := Nat.pow_le_pow_right (by omega) (by omega)
theorem bits_or {a b : Nat} (ha : a < 2 ^ 64) (hb : b < 2 ^ 64) : bitsOf .or .u64 (a : Int) (b : Int) = ((a ||| b : Nat) : Int) := by
  have h : bitsOf .or .u64 (a : Int) (b : Int) = IntKind.u64.wrap (((BitVec.ofInt 64 (a : Int)) ||| (BitVec.ofInt 64 (b : Int))).toNat : Nat) := rfl
  have hlt : a ||| b < 2 ^ 64 := Nat.or_lt_two_pow ha hb
  rw [h, BitVec.ofInt_natCast, BitVec.ofInt_natCast, BitVec.toNat_or, BitVec.toNat_ofNat, BitVec.toNat_ofNat, Nat.mod_eq_of_lt ha, Nat.mod_eq_of_lt hb]
  exact w_u64 (by omega) (by omega)
theorem or_add {k a c : Nat} (hk : k < 8) (ha : a < 2 ^ (8 * k)) (hc : c < 256) : bitsOf .or .u64 (a : Int) ((c * 2 ^ (8 * k) : Nat) : Int) = ((a + c * 2 ^ (8 * k) : Nat) : Int) := by
  have h1 := pow_le64 hk
  have h2 : c * 2 ^ (8 * k) ≤ 255 * 2 ^ 56 := Nat.mul_le_mul (by omega) h1
  have e : (a ||| c * 2 ^ (8 * k)) = a + c * 2 ^ (8 * k) := by
    rw [← Nat.shiftLeft_eq, Nat.or_comm, ← Nat.shiftLeft_add_eq_or_of_lt ha, Nat.add_comm]
  rw [bits_or (by omega) (by omega), e]
theorem shl_val {k c : Nat} (hk : k < 8) (hc : c < 256) : IntKind.u64.wrap ((c : Int) * 2 ^ (min ((8 : Int) * (k : Int)).toNat IntKind.u64.bits)) = ((c * 2 ^ (8 * k) : Nat) : Int) := by
  have e : min ((8 : Int) * (k : Int)).toNat IntKind.u64.bits = 8 * k := by simp only [IntKind.bits]; omega
  have h1 := pow_le64 hk
  have h2 : c * 2 ^ (8 * k) ≤ 255 * 2 ^ 56 := Nat.mul_le_mul (by omega) h1
  have e2 : ((c : Int) * 2 ^ (8 * k)) = ((c * 2 ^ (8 * k) : Nat) : Int) := by push_cast; rfl
  rw [e, e2]
  exact w_u64 (by omega) (by omega)

def passOf (l : List UInt8) : Nat := get8 l 0 % 4294967296
def wholeB (l : List UInt8) : Bool := (decide ((1 : Int) ≤ (passOf l : Nat)) && decide (((passOf l : Nat) : Int) ≤ 250)) && decide (((l.getD 63 0).toNat : Int) = ((markB (passOf l : Nat)).toNat : Int))
def headB (p pl kd : Int) (d : List UInt8) : List UInt8 := (put8 p).take 4 ++ [b8 pl, b8 (pl / 256), b8 kd, b8 d.length]
def bodyB (p pl kd : Int) (d : List UInt8) : List UInt8 := headB p pl kd d ++ d ++ List.replicate (48 - d.length) 0
/-- a cell's sector -/
def cellB (p pl kd : Int) (d : List UInt8) : List UInt8 :=
  bodyB p pl kd d ++ (put8 (sum18 (bodyB p pl kd d) : Nat)).take 4 ++ List.replicate 3 0 ++ [markB p]
def mayC (p pl kd : Int) (n : Nat) : Bool := decide (1 ≤ p) && decide (p ≤ 250) && decide (0 ≤ pl) && decide (pl ≤ 4096) && decide (1 ≤ kd) && decide (kd ≤ 3) && decide ((n : Int) ≤ 48)
theorem bodyB_len (p pl kd : Int) (d : List UInt8) (h : d.length ≤ 48) : (bodyB p pl kd d).length = 56 := by
  simp [bodyB, headB]; omega
theorem cellB_len (p pl kd : Int) (d : List UInt8) (h : d.length ≤ 48) : (cellB p pl kd d).length = 64 := by
  simp [cellB, bodyB_len _ _ _ _ h]
theorem shr8 (pl : Int) : pl.fdiv (2 ^ (min (8 : Int).toNat IntKind.i64.bits)) = pl / 256 := by
  rw [Int.fdiv_eq_ediv_of_nonneg _ (Int.pow_nonneg (by decide))]; rfl

def plOf (l : List UInt8) : Nat := (l.getD 4 0).toNat + 256 * (l.getD 5 0).toNat
def kdOf (l : List UInt8) : Nat := (l.getD 6 0).toNat
def nOf (l : List UInt8) : Nat := min (l.getD 7 0).toNat 48
def dOf (l : List UInt8) : List UInt8 := (l.drop 8).take (nOf l)
theorem dOf_len {l : List UInt8} (h : l.length = 64) : (dOf l).length = nOf l := by
  simp [dOf, nOf, h]
def mayL (l : List UInt8) : Bool := mayC (passOf l : Nat) (plOf l : Nat) (kdOf l : Nat) (nOf l)
/-- the cell that would be of a sector, put again -/
def againB (l : List UInt8) : List UInt8 := cellB (passOf l : Nat) (plOf l : Nat) (kdOf l : Nat) (dOf l)
def zeroC : Value := .agg #[.int .u32 0, .int .i64 0, .int .i64 0, .slice none 0 0]
theorem bits_or64 {a b : Nat} (ha : a < 2 ^ 62) (hb : b < 2 ^ 62) : bitsOf .or .i64 (a : Int) (b : Int) = ((a ||| b : Nat) : Int) := by
  have h : bitsOf .or .i64 (a : Int) (b : Int) = IntKind.i64.wrap (((BitVec.ofInt 64 (a : Int)) ||| (BitVec.ofInt 64 (b : Int))).toNat : Nat) := rfl
  have hlt : a ||| b < 2 ^ 62 := Nat.or_lt_two_pow ha hb
  rw [h, BitVec.ofInt_natCast, BitVec.ofInt_natCast, BitVec.toNat_or, BitVec.toNat_ofNat, BitVec.toNat_ofNat, Nat.mod_eq_of_lt (by omega), Nat.mod_eq_of_lt (by omega)]
  exact w_i64 (by omega) (by omega)
theorem or_pl {a c : Nat} (ha : a < 256) (hc : c < 256) : bitsOf .or .i64 (a : Int) ((c * 256 : Nat) : Int) = ((a + 256 * c : Nat) : Int) := by
  have e : (a ||| c * 256) = a + 256 * c := by
    have h8 : (256 : Nat) = 2 ^ 8 := rfl
    rw [h8, ← Nat.shiftLeft_eq, Nat.or_comm, ← Nat.shiftLeft_add_eq_or_of_lt (by omega), Nat.shiftLeft_eq]; omega
  rw [bits_or64 (by omega) (by omega), e]
theorem shl_pl {c : Nat} (hc : c < 256) : IntKind.i64.wrap ((c : Int) * 2 ^ (min (8 : Int).toNat IntKind.i64.bits)) = ((c * 256 : Nat) : Int) := by
  have e : ((c : Int) * 2 ^ (min (8 : Int).toNat IntKind.i64.bits)) = ((c * 256 : Nat) : Int) := by
    show (c : Int) * 2 ^ 8 = _
    omega
  rw [e]; exact w_i64 (by omega) (by omega)
end Go.X
