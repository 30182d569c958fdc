/- Plain words for what is set up. -/
import Derived.Test.YtphoapajlcaoeaaES2
set_option linter.unusedVariables false
set_option linter.unusedSimpArgs false
namespace Go.X
open Go
structure Cf where
  n : Int
  f : Int
  m : Int
  quorum : Int
  fresh : Int
  grace : Int
  window : Int
  t0 : Int
  t1 : Int
  t2 : Int
  t3 : Int
  tol : Int
  min : Int
  max : Int
  calmup : Int
  calmdown : Int
  podsup : Int
  pctup : Int
  podsdown : Int
  pctdown : Int
  period : Int
  far : Int
  strikes : Int
  probe : Int
  sectors : Int
  seed : Int
abbrev Cf.cs (c : Cf) : Array Value := #[.int .i64 c.n, .int .i64 c.f, .int .i64 c.m, .int .i64 c.quorum, .int .i64 c.fresh, .int .i64 c.grace, .int .i64 c.window, .int .i64 c.t0, .int .i64 c.t1, .int .i64 c.t2, .int .i64 c.t3, .int .i64 c.tol, .int .i64 c.min, .int .i64 c.max, .int .i64 c.calmup, .int .i64 c.calmdown, .int .i64 c.podsup, .int .i64 c.pctup, .int .i64 c.podsdown, .int .i64 c.pctdown, .int .i64 c.period, .int .i64 c.far, .int .i64 c.strikes, .int .i64 c.probe, .int .i64 c.sectors, .int .u64 c.seed]
abbrev Cf.v (c : Cf) : Value := .agg c.cs
def Cf.ts (c : Cf) : List Int := [c.t0, c.t1, c.t2, c.t3]
def cfZ : Cf := ⟨0, 0, 0, 0, 0, 0, 0, 0, 0, 0, 0, 0, 0, 0, 0, 0, 0, 0, 0, 0, 0, 0, 0, 0, 0, 0⟩
def cfD : Cf := ⟨4, 1, 1, 3, 2, 2, 32, 1000, 0, 0, 0, 100, 1, 100, 0, 3, 4, 100, 4, 50, 2, 100, 3, 4, 256, 1⟩
/-- it may be so -/
structure OkC (c : Cf) : Prop where
  n : 1 ≤ c.n ∧ c.n ≤ 16
  m : 1 ≤ c.m ∧ c.m ≤ 4
  fresh : 1 ≤ c.fresh ∧ c.fresh ≤ 8
  grace : 1 ≤ c.grace ∧ c.grace ≤ 100
  window : 1 ≤ c.window ∧ c.window ≤ 64
  tol : 0 ≤ c.tol ∧ c.tol ≤ 1000
  min : 1 ≤ c.min ∧ c.min ≤ 10000
  calmup : 0 ≤ c.calmup ∧ c.calmup ≤ 60
  calmdown : 0 ≤ c.calmdown ∧ c.calmdown ≤ 60
  podsup : 1 ≤ c.podsup ∧ c.podsup ≤ 1000
  pctup : 1 ≤ c.pctup ∧ c.pctup ≤ 1000
  podsdown : 1 ≤ c.podsdown ∧ c.podsdown ≤ 1000
  pctdown : 1 ≤ c.pctdown ∧ c.pctdown ≤ 100
  period : 1 ≤ c.period ∧ c.period ≤ 60
  far : 0 ≤ c.far ∧ c.far ≤ 1099511627776
  strikes : 1 ≤ c.strikes ∧ c.strikes ≤ 100
  probe : 1 ≤ c.probe ∧ c.probe ≤ 100
  sectors : 64 ≤ c.sectors ∧ c.sectors ≤ 4096
  seed : 0 ≤ c.seed ∧ c.seed ≤ 18446744073709551615
  f : 0 ≤ c.f ∧ 3 * c.f + 1 ≤ c.n
  quorum : 2 * c.f + 1 ≤ c.quorum ∧ c.quorum ≤ c.n
  max : c.min ≤ c.max ∧ c.max ≤ 10000
  t0 : (0 < c.m → 1 ≤ c.t0 ∧ c.t0 ≤ 1099511627776) ∧ (c.m ≤ 0 → c.t0 = 0)
  t1 : (1 < c.m → 1 ≤ c.t1 ∧ c.t1 ≤ 1099511627776) ∧ (c.m ≤ 1 → c.t1 = 0)
  t2 : (2 < c.m → 1 ≤ c.t2 ∧ c.t2 ≤ 1099511627776) ∧ (c.m ≤ 2 → c.t2 = 0)
  t3 : (3 < c.m → 1 ≤ c.t3 ∧ c.t3 ≤ 1099511627776) ∧ (c.m ≤ 3 → c.t3 = 0)
structure Pt where
  name : List UInt8
  is : Int
  lo : Int
  hi : Int
abbrev Pt.cs (p : Pt) : List Value := [.string (ofL p.name), .int .i64 p.is, .int .i64 p.lo, .int .i64 p.hi]
theorem Pt.cs_len (p : Pt) : p.cs.length = 4 := rfl
def partsL (c : Cf) (f tg : Int) : List Pt := [⟨[110], c.n, 1, 16⟩, ⟨[102], c.f, 0, ((c.n - 1).tdiv 3)⟩, ⟨[109], c.m, 1, 4⟩, ⟨[113, 117, 111, 114, 117, 109], c.quorum, (2 * f + 1), c.n⟩, ⟨[102, 114, 101, 115, 104], c.fresh, 1, 8⟩, ⟨[103, 114, 97, 99, 101], c.grace, 1, 100⟩, ⟨[119, 105, 110, 100, 111, 119], c.window, 1, 64⟩, ⟨[116, 97, 114, 103, 101, 116], tg, 1, 1⟩, ⟨[116, 111, 108], c.tol, 0, 1000⟩, ⟨[109, 105, 110], c.min, 1, 10000⟩, ⟨[109, 97, 120], c.max, c.min, 10000⟩, ⟨[99, 97, 108, 109, 117, 112], c.calmup, 0, 60⟩, ⟨[99, 97, 108, 109, 100, 111, 119, 110], c.calmdown, 0, 60⟩, ⟨[112, 111, 100, 115, 117, 112], c.podsup, 1, 1000⟩, ⟨[112, 99, 116, 117, 112], c.pctup, 1, 1000⟩, ⟨[112, 111, 100, 115, 100, 111, 119, 110], c.podsdown, 1, 1000⟩, ⟨[112, 99, 116, 100, 111, 119, 110], c.pctdown, 1, 100⟩, ⟨[112, 101, 114, 105, 111, 100], c.period, 1, 60⟩, ⟨[102, 97, 114], c.far, 0, 1099511627776⟩, ⟨[115, 116, 114, 105, 107, 101, 115], c.strikes, 1, 100⟩, ⟨[112, 114, 111, 98, 101], c.probe, 1, 100⟩, ⟨[115, 101, 99, 116, 111, 114, 115], c.sectors, 64, 4096⟩]
theorem parts_ok {c : Cf} (h : OkC c) : ∀ p ∈ partsL c c.f 1, p.lo ≤ p.is ∧ p.is ≤ p.hi := by
  obtain ⟨h0, h1, h2, h3, h4, h5, h6, h7, h8, h9, h10, h11, h12, h13, h14, h15, h16, h17, h18, h19, h20, h21, h22, h23, h24, h25⟩ := h
  intro p hp
  have hf : c.f ≤ (c.n - 1).tdiv 3 := by rw [Int.tdiv_eq_ediv_of_nonneg (by omega)]; omega
  simp only [partsL, List.mem_cons, List.not_mem_nil, or_false] at hp
  rcases hp with rfl | rfl | rfl | rfl | rfl | rfl | rfl | rfl | rfl | rfl | rfl | rfl | rfl | rfl | rfl | rfl | rfl | rfl | rfl | rfl | rfl | rfl <;> constructor <;> simp only <;> omega
theorem parts_get {c : Cf} (h : OkC c) {k : Nat} {p : Pt} (hp : (partsL c c.f 1)[k]? = some p) : p.lo ≤ p.is ∧ p.is ≤ p.hi := parts_ok h p (List.mem_of_getElem? hp)
theorem parts_len (c : Cf) (f tg : Int) : (partsL c f tg).length = 22 := rfl
theorem ts_ok {c : Cf} (h : OkC c) {k : Nat} {x : Int} (hx : c.ts[k]? = some x) : ((k : Int) < c.m → 1 ≤ x ∧ x ≤ 1099511627776) ∧ (c.m ≤ k → x = 0) := by
  match k, hx with
  | 0, hx => cases hx; exact h.t0
  | 1, hx => cases hx; exact h.t1
  | 2, hx => cases hx; exact h.t2
  | 3, hx => cases hx; exact h.t3
  | k + 4, hx => simp [Cf.ts] at hx
theorem okD : OkC cfD := by constructor <;> simp [cfD]
end Go.X
