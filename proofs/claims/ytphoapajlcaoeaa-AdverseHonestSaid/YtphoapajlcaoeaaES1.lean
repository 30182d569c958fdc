/- Plain words for the hash: words turned, rounds, the sum of bytes under a key. -/
import Derived.Test.YtphoapajlcaoeaaES18b
set_option linter.unusedVariables false
set_option linter.unusedSimpArgs false
namespace Go.X
open Go
theorem and63 : ∀ k : Fin 64, bitsOf .and .u64 (k.val : Int) 63 = (k.val : Int) := by decide +kernel
/-- a word turned to the left -/
def rotl (x : Int) (k : Nat) : Int := bitsOf .or .u64 (IntKind.u64.wrap (x * 2 ^ k)) (x.fdiv (2 ^ (64 - k)))
def add64 (a b : Int) : Int := IntKind.u64.wrap (a + b)
def xor64 (a b : Int) : Int := bitsOf .xor .u64 a b
structure W4 where
  a : Int
  b : Int
  c : Int
  d : Int
def round1 (w : W4) : W4 :=
  let a1 := add64 w.a w.b
  let b1 := xor64 (rotl w.b 13) a1
  let a2 := rotl a1 32
  let c1 := add64 w.c w.d
  let d1 := xor64 (rotl w.d 16) c1
  let a3 := add64 a2 d1
  let d2 := xor64 (rotl d1 21) a3
  let c2 := add64 c1 b1
  let b2 := xor64 (rotl b1 17) c2
  let c3 := rotl c2 32
  ⟨a3, b2, c3, d2⟩
def rounds : Nat → W4 → W4
  | 0, w => w
  | n + 1, w => round1 (rounds n w)
def takeW (m : Int) (w : W4) : W4 :=
  let v := rounds 2 { w with d := xor64 w.d m }
  { v with a := xor64 v.a m }
/-- the first k words of bytes taken -/
def absorb (l : List UInt8) : Nat → W4 → W4
  | 0, w => w
  | k + 1, w => takeW (get8 l (8 * k) : Nat) (absorb l k w)
def endW (w : W4) : Int :=
  let v := rounds 4 { w with c := xor64 w.c 255 }
  xor64 (xor64 (xor64 v.a v.b) v.c) v.d
def keyW (k0 k1 : Int) : W4 := ⟨xor64 0x736f6d6570736575 k0, xor64 0x646f72616e646f6d k1, xor64 0x6c7967656e657261 k0, xor64 0x7465646279746573 k1⟩
/-- what is left, filled up with noughts to seven bytes, and how many there were -/
def lastB (l : List UInt8) : List UInt8 := l.drop (8 * (l.length / 8)) ++ List.replicate (7 - l.length % 8) 0 ++ [b8 l.length]
def sipSum (k0 k1 : Int) (l : List UInt8) : Int := endW (takeW (get8 (lastB l) 0 : Nat) (absorb l (l.length / 8) (keyW k0 k1)))
end Go.X
