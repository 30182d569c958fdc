/- Plain words for keys, tags, messages. -/
import Derived.Test.YtphoapajlcaoeaaES1
set_option linter.unusedVariables false
set_option linter.unusedSimpArgs false
namespace Go.X
open Go
def not64 (x : Int) : Int := bitsOf .xor .u64 18446744073709551615 x
/-- a key or a tag: two words -/
structure K2 where
  a : Int
  b : Int
def K2.v (k : K2) : Value := .agg #[.int .u64 k.a, .int .u64 k.b]
def tagOf (k : K2) (l : List UInt8) : K2 := ⟨sipSum k.a k.b l, sipSum k.b (not64 k.a) l⟩
def derive1 (k : K2) (lab : List UInt8) (n : Int) (i : Nat) : Int := sipSum k.a k.b (lab ++ [b8 (i + 1 : Nat)] ++ put8 n)
def deriveK (k : K2) (lab : List UInt8) (n : Int) : K2 := ⟨derive1 k lab n 0, derive1 k lab n 1⟩
def rootK (seed : Int) : K2 := deriveK ⟨seed, add64 seed 1⟩ [114, 111, 111, 116] 0
def macKey (seed who gen : Int) : K2 := deriveK (deriveK (rootK seed) [119, 104, 111] (IntKind.u64.wrap who)) [103, 101, 110] (IntKind.u64.wrap gen)
structure Ms where
  kind : Int
  who : Int
  gen : Int
  seq : Int
  epoch : Int
  value : Int
  metric : Int
def Ms.v (m : Ms) : Value := .agg #[.int .i64 m.kind, .int .i64 m.who, .int .i64 m.gen, .int .i64 m.seq, .int .i64 m.epoch, .int .i64 m.value, .int .i64 m.metric]
def msZ : Ms := ⟨0, 0, 0, 0, 0, 0, 0⟩
def inB (n lo hi : Int) : Bool := decide (lo ≤ n) && decide (n ≤ hi)
def mayM (m : Ms) : Bool := inB m.kind 1 3 && inB m.who 0 15 && inB m.gen 0 60000 && inB m.seq 1 1099511627776 && inB m.epoch 0 1099511627776 && inB m.metric 0 (if m.kind = 1 then 3 else 0) && inB m.value 0 (if m.kind = 1 then 1099511627776 else 0)
def putM (m : Ms) : List UInt8 := [1, b8 m.kind, b8 m.who, b8 m.metric] ++ (put8 (IntKind.u64.wrap m.gen)).take 4 ++ put8 (IntKind.u64.wrap m.seq) ++ put8 (IntKind.u64.wrap m.epoch) ++ put8 (IntKind.u64.wrap m.value)
@[simp] theorem putM_len (m : Ms) : (putM m).length = 32 := by simp [putM]
def tagB (t : K2) : List UInt8 := put8 t.a ++ put8 t.b
@[simp] theorem tagB_len (t : K2) : (tagB t).length = 16 := by simp [tagB]
def sealB (k : K2) (m : Ms) : List UInt8 := putM m ++ tagB (tagOf k (putM m))
@[simp] theorem sealB_len (k : K2) (m : Ms) : (sealB k m).length = 48 := by simp [sealB]
end Go.X
