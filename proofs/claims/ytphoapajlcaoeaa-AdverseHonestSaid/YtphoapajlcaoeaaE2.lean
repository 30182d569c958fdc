/- The engine: integers, Bools, strings, nil tests, lengths, slicing: values. -/
import Derived.Test.YtphoapajlcaoeaaE1
set_option linter.unusedVariables false
set_option linter.unusedSimpArgs false
namespace Go.X
open Go Go.RowKit

theorem w_i64 {e : Int} (h1 : -9223372036854775808 ≤ e) (h2 : e ≤ 9223372036854775807) : IntKind.i64.wrap e = e := by
  simp [IntKind.wrap, IntKind.signed, IntKind.bits]; split <;> omega
theorem w_u64m {e : Int} : IntKind.u64.wrap e = e % 18446744073709551616 := by simp [IntKind.wrap, IntKind.signed, IntKind.bits]
theorem w_u32m {e : Int} : IntKind.u32.wrap e = e % 4294967296 := by simp [IntKind.wrap, IntKind.signed, IntKind.bits]
theorem w_u8m {e : Int} : IntKind.u8.wrap e = e % 256 := by simp [IntKind.wrap, IntKind.signed, IntKind.bits]
theorem w_u64 {e : Int} (h1 : 0 ≤ e) (h2 : e ≤ 18446744073709551615) : IntKind.u64.wrap e = e := by rw [w_u64m]; omega
theorem w_u32 {e : Int} (h1 : 0 ≤ e) (h2 : e ≤ 4294967295) : IntKind.u32.wrap e = e := by rw [w_u32m]; omega
theorem w_u8 {e : Int} (h1 : 0 ≤ e) (h2 : e ≤ 255) : IntKind.u8.wrap e = e := by rw [w_u8m]; omega

section
variable {P : Program} {N : Nat} {z : World} {E : Env} {M : Hp}
variable {dst : Option Tmp} {ty : TypeId} {pos : String} {af : Array Edge} {gu : Option (Nat × Bool)} {t yt : TypeId} {x y : Operand} {k : IntKind} {m n r : Int}

theorem Val.same {o : Oper} {v v' : Value} (h : Val P N z E M o v) (e : v = v') : Val P N z E M o v' := e ▸ h

theorem Val.add (hx : ev E x = some (.int k m)) (hy : ev E y = some (.int k n)) (hr : k.wrap (m + n) = r) : Val P N z E M ⟨dst, .binOp .add t x y yt, ty, pos, af, gu⟩ (.int k r) := fun a w ha hw => by
  simp [execOp, ha.ev hx, ha.ev hy, eqGuard_at_int, binOp, Op.intArith, hr]
theorem Val.sub (hx : ev E x = some (.int k m)) (hy : ev E y = some (.int k n)) (hr : k.wrap (m - n) = r) : Val P N z E M ⟨dst, .binOp .sub t x y yt, ty, pos, af, gu⟩ (.int k r) := fun a w ha hw => by
  simp [execOp, ha.ev hx, ha.ev hy, eqGuard_at_int, binOp, Op.intArith, hr]
theorem Val.mul (hx : ev E x = some (.int k m)) (hy : ev E y = some (.int k n)) (hr : k.wrap (m * n) = r) : Val P N z E M ⟨dst, .binOp .mul t x y yt, ty, pos, af, gu⟩ (.int k r) := fun a w ha hw => by
  simp [execOp, ha.ev hx, ha.ev hy, eqGuard_at_int, binOp, Op.intArith, hr]
theorem Val.quo (hx : ev E x = some (.int k m)) (hy : ev E y = some (.int k n)) (h0 : n ≠ 0) (hr : k.wrap (m.tdiv n) = r) : Val P N z E M ⟨dst, .binOp .quo t x y yt, ty, pos, af, gu⟩ (.int k r) := fun a w ha hw => by
  simp [execOp, ha.ev hx, ha.ev hy, eqGuard_at_int, binOp, Op.intDiv, h0, hr]
theorem Val.rem (hx : ev E x = some (.int k m)) (hy : ev E y = some (.int k n)) (h0 : n ≠ 0) (hr : m.tmod n = r) : Val P N z E M ⟨dst, .binOp .rem t x y yt, ty, pos, af, gu⟩ (.int k r) := fun a w ha hw => by
  simp [execOp, ha.ev hx, ha.ev hy, eqGuard_at_int, binOp, Op.intDiv, h0, hr]
theorem Val.shl {k' : IntKind} (hx : ev E x = some (.int k m)) (hy : ev E y = some (.int k' n)) (h0 : 0 ≤ n) (hr : k.wrap (m * 2 ^ (min n.toNat k.bits)) = r) : Val P N z E M ⟨dst, .binOp .shl t x y yt, ty, pos, af, gu⟩ (.int k r) := fun a w ha hw => by
  have : ¬ n < 0 := by omega
  simp [execOp, ha.ev hx, ha.ev hy, eqGuard_at_int, binOp, Op.shift, this, hr]
theorem Val.shr {k' : IntKind} (hx : ev E x = some (.int k m)) (hy : ev E y = some (.int k' n)) (h0 : 0 ≤ n) (hr : m.fdiv (2 ^ (min n.toNat k.bits)) = r) : Val P N z E M ⟨dst, .binOp .shr t x y yt, ty, pos, af, gu⟩ (.int k r) := fun a w ha hw => by
  have : ¬ n < 0 := by omega
  simp [execOp, ha.ev hx, ha.ev hy, eqGuard_at_int, binOp, Op.shift, this, hr]

/-- bits: and, or, xor, and-not -/
def bitsOf (op : BinOp) (k : IntKind) (m n : Int) : Int :=
  let a := BitVec.ofInt k.bits m
  let b := BitVec.ofInt k.bits n
  k.wrap (match op with | .and => (a &&& b).toNat | .or => (a ||| b).toNat | .xor => (a ^^^ b).toNat | _ => (a &&& ~~~b).toNat : Nat)

theorem Val.and (hx : ev E x = some (.int k m)) (hy : ev E y = some (.int k n)) (hr : bitsOf .and k m n = r) : Val P N z E M ⟨dst, .binOp .and t x y yt, ty, pos, af, gu⟩ (.int k r) := fun a w ha hw => by
  subst hr
  simp [execOp, ha.ev hx, ha.ev hy, eqGuard_at_int, binOp, Op.intBits, bitsOf]
theorem Val.or (hx : ev E x = some (.int k m)) (hy : ev E y = some (.int k n)) (hr : bitsOf .or k m n = r) : Val P N z E M ⟨dst, .binOp .or t x y yt, ty, pos, af, gu⟩ (.int k r) := fun a w ha hw => by
  subst hr
  simp [execOp, ha.ev hx, ha.ev hy, eqGuard_at_int, binOp, Op.intBits, bitsOf]
theorem Val.xor (hx : ev E x = some (.int k m)) (hy : ev E y = some (.int k n)) (hr : bitsOf .xor k m n = r) : Val P N z E M ⟨dst, .binOp .xor t x y yt, ty, pos, af, gu⟩ (.int k r) := fun a w ha hw => by
  subst hr
  simp [execOp, ha.ev hx, ha.ev hy, eqGuard_at_int, binOp, Op.intBits, bitsOf]
theorem Val.andNot (hx : ev E x = some (.int k m)) (hy : ev E y = some (.int k n)) (hr : bitsOf .andNot k m n = r) : Val P N z E M ⟨dst, .binOp .andNot t x y yt, ty, pos, af, gu⟩ (.int k r) := fun a w ha hw => by
  subst hr
  simp [execOp, ha.ev hx, ha.ev hy, eqGuard_at_int, binOp, Op.intBits, bitsOf]

theorem Val.eqlI (hx : ev E x = some (.int k m)) (hy : ev E y = some (.int k n)) : Val P N z E M ⟨dst, .binOp .eql t x y yt, ty, pos, af, gu⟩ (.bool (decide (m = n))) := fun a w ha hw => by
  simp [execOp, ha.ev hx, ha.ev hy, eqGuard_at_int, binOp, Op.intCmp]; exact Bool.beq_eq_decide_eq ..
theorem Val.neqI (hx : ev E x = some (.int k m)) (hy : ev E y = some (.int k n)) : Val P N z E M ⟨dst, .binOp .neq t x y yt, ty, pos, af, gu⟩ (.bool (decide (m ≠ n))) := fun a w ha hw => by
  simp [execOp, ha.ev hx, ha.ev hy, eqGuard_at_int, binOp, Op.intCmp]; by_cases e : m = n <;> simp [e]
theorem Val.lss (hx : ev E x = some (.int k m)) (hy : ev E y = some (.int k n)) : Val P N z E M ⟨dst, .binOp .lss t x y yt, ty, pos, af, gu⟩ (.bool (decide (m < n))) := fun a w ha hw => by
  simp [execOp, ha.ev hx, ha.ev hy, eqGuard_at_int, binOp, Op.intCmp]
theorem Val.leq (hx : ev E x = some (.int k m)) (hy : ev E y = some (.int k n)) : Val P N z E M ⟨dst, .binOp .leq t x y yt, ty, pos, af, gu⟩ (.bool (decide (m ≤ n))) := fun a w ha hw => by
  simp [execOp, ha.ev hx, ha.ev hy, eqGuard_at_int, binOp, Op.intCmp]
theorem Val.gtr (hx : ev E x = some (.int k m)) (hy : ev E y = some (.int k n)) : Val P N z E M ⟨dst, .binOp .gtr t x y yt, ty, pos, af, gu⟩ (.bool (decide (n < m))) := fun a w ha hw => by
  simp [execOp, ha.ev hx, ha.ev hy, eqGuard_at_int, binOp, Op.intCmp]
theorem Val.geq (hx : ev E x = some (.int k m)) (hy : ev E y = some (.int k n)) : Val P N z E M ⟨dst, .binOp .geq t x y yt, ty, pos, af, gu⟩ (.bool (decide (n ≤ m))) := fun a w ha hw => by
  simp [execOp, ha.ev hx, ha.ev hy, eqGuard_at_int, binOp, Op.intCmp]

theorem Val.not {b : Bool} (hx : ev E x = some (.bool b)) : Val P N z E M ⟨dst, .unOp .not t x, ty, pos, af, gu⟩ (.bool (!b)) := fun a w ha hw => by
  simp [execOp, ha.ev hx, Op.unary]
theorem Val.neg (hx : ev E x = some (.int k m)) (hr : k.wrap (0 - m) = r) : Val P N z E M ⟨dst, .unOp .neg t x, ty, pos, af, gu⟩ (.int k r) := fun a w ha hw => by
  subst hr
  simp [execOp, ha.ev hx, Op.unary, Op.intArith]
theorem Val.xorU (hx : ev E x = some (.int k m)) (hr : bitsOf .xor k (if k.signed then -1 else k.max) m = r) : Val P N z E M ⟨dst, .unOp .xor t x, ty, pos, af, gu⟩ (.int k r) := fun a w ha hw => by
  subst hr
  simp [execOp, ha.ev hx, Op.unary, Op.intBits, bitsOf]

/-- the kind of an integer type -/
def intQ (P : Program) (t : TypeId) : Option IntKind := match P.underlying t with | some (.int k) => some k | _ => none
theorem intQ_spec {t : TypeId} {k : IntKind} (h : intQ P t = some k) : P.underlying t = some (.int k) := by
  unfold intQ at h; split at h
  · rename_i k' hk; cases h; exact hk
  · cases h

theorem Val.convI {s d : TypeId} {k' : IntKind} (hx : ev E x = some (.int k m)) (hs : (P.underlying s).isSome = true) (hd : intQ P d = some k') (hr : k'.wrap m = r) :
    Val P N z E M ⟨dst, .convert s d x, ty, pos, af, gu⟩ (.int k' r) := fun a w ha hw => by
  subst hr
  obtain ⟨ds, hs⟩ := Option.isSome_iff_exists.1 hs
  simp only [execOp, ha.ev hx, convert, Sem.run_bind, run_underlying hs, run_underlying (intQ_spec hd), Result.andThen]
  cases ds <;> simp [Conv.intToInt]

/-! Bools, nil -/
theorem run_eqB {a b : Bool} (ht : P.underlying t = some .bool) (w : World) : (Op.equal t (.bool a) (.bool b)).run P w = .ok (a == b) w := by
  show (Op.equalIn (9999 + 1) t _ _).run P w = _
  unfold Op.equalIn
  simp only [Sem.run_bind, run_underlying ht, Result.andThen, Sem.run_pure]
theorem run_eqP {a : Option Addr} {e : TypeId} (ht : P.underlying t = some (.pointer e)) (w : World) : (Op.equal t (.pointer a) (.pointer none)).run P w = .ok a.isNone w := by
  show (Op.equalIn (9999 + 1) t _ _).run P w = _
  unfold Op.equalIn
  cases a <;> simp only [Sem.run_bind, run_underlying ht, Result.andThen, Sem.run_pure, Option.isNone]
theorem run_eqSl {a : Option Addr} {e l c l' c' : Nat} (ht : P.underlying t = some (.slice e)) (w : World) : (Op.equal t (.slice a l c) (.slice none l' c')).run P w = .ok a.isNone w := by
  show (Op.equalIn (9999 + 1) t _ _).run P w = _
  unfold Op.equalIn
  cases a <;> simp only [Sem.run_bind, run_underlying ht, Result.andThen, Sem.run_pure, Option.isNone]
theorem Val.eqlB {a b : Bool} (hx : ev E x = some (.bool a)) (hy : ev E y = some (.bool b)) (ht : P.underlying t = some .bool) : Val P N z E M ⟨dst, .binOp .eql t x y yt, ty, pos, af, gu⟩ (.bool (a == b)) := fun a w ha hw => by
  simp only [execOp, ha.ev hx, ha.ev hy, eqGuard_at_bool, binOp, Sem.run_bind, Sem.run_pure, run_eqB ht, Result.andThen]
theorem Val.neqB {a b : Bool} (hx : ev E x = some (.bool a)) (hy : ev E y = some (.bool b)) (ht : P.underlying t = some .bool) : Val P N z E M ⟨dst, .binOp .neq t x y yt, ty, pos, af, gu⟩ (.bool (!(a == b))) := fun a w ha hw => by
  simp only [execOp, ha.ev hx, ha.ev hy, eqGuard_at_bool, binOp, Sem.run_bind, Sem.run_pure, run_eqB ht, Result.andThen]

def ptrQ (P : Program) (t : TypeId) : Bool := match P.underlying t with | some (.pointer _) => true | _ => false
theorem ptrQ_spec {t : TypeId} (h : ptrQ P t = true) : ∃ e, P.underlying t = some (.pointer e) := by
  unfold ptrQ at h; split at h
  · rename_i e he; exact ⟨e, he⟩
  · cases h

/-- p == nil, where p is a pointer -/
theorem Val.eqlNil {p : Option Addr} (hx : ev E x = some (.pointer p)) (hy : ev E y = some (.pointer none)) (ht : ptrQ P t = true) : Val P N z E M ⟨dst, .binOp .eql t x y yt, ty, pos, af, gu⟩ (.bool p.isNone) := fun a w ha hw => by
  obtain ⟨e, ht⟩ := ptrQ_spec ht
  have hq : eqGuard .eql t x y (.pointer p) (.pointer none) = pure () := rfl
  simp only [execOp, ha.ev hx, ha.ev hy, hq, binOp, Sem.run_bind, Sem.run_pure, run_eqP ht, Result.andThen]
  try (cases p <;> rfl)
theorem Val.neqNil {p : Option Addr} (hx : ev E x = some (.pointer p)) (hy : ev E y = some (.pointer none)) (ht : ptrQ P t = true) : Val P N z E M ⟨dst, .binOp .neq t x y yt, ty, pos, af, gu⟩ (.bool p.isSome) := fun a w ha hw => by
  obtain ⟨e, ht⟩ := ptrQ_spec ht
  have hq : eqGuard .neq t x y (.pointer p) (.pointer none) = pure () := rfl
  simp only [execOp, ha.ev hx, ha.ev hy, hq, binOp, Sem.run_bind, Sem.run_pure, run_eqP ht, Result.andThen]
  try (cases p <;> rfl)

def slQ (P : Program) (t : TypeId) : Option TypeId := match P.underlying t with | some (.slice e) => some e | _ => none
theorem slQ_spec {t e : TypeId} (h : slQ P t = some e) : P.underlying t = some (.slice e) := by
  unfold slQ at h; split at h
  · rename_i e' he; cases h; exact he
  · cases h

theorem Val.eqlNilS {p : Option Addr} {l c l' c' : Nat} {e : TypeId} (hx : ev E x = some (.slice p l c)) (hy : ev E y = some (.slice none l' c')) (ht : slQ P t = some e) : Val P N z E M ⟨dst, .binOp .eql t x y yt, ty, pos, af, gu⟩ (.bool p.isNone) := fun a w ha hw => by
  have ht := slQ_spec ht
  have hq : eqGuard .eql t x y (.slice p l c) (.slice none l' c') = pure () := rfl
  simp only [execOp, ha.ev hx, ha.ev hy, hq, binOp, Sem.run_bind, Sem.run_pure, run_eqSl ht, Result.andThen]
  try (cases p <;> rfl)
theorem Val.neqNilS {p : Option Addr} {l c l' c' : Nat} {e : TypeId} (hx : ev E x = some (.slice p l c)) (hy : ev E y = some (.slice none l' c')) (ht : slQ P t = some e) : Val P N z E M ⟨dst, .binOp .neq t x y yt, ty, pos, af, gu⟩ (.bool p.isSome) := fun a w ha hw => by
  have ht := slQ_spec ht
  have hq : eqGuard .neq t x y (.slice p l c) (.slice none l' c') = pure () := rfl
  simp only [execOp, ha.ev hx, ha.ev hy, hq, binOp, Sem.run_bind, Sem.run_pure, run_eqSl ht, Result.andThen]
  try (cases p <;> rfl)

/-! strings -/
theorem Val.eqlS {s u : ByteArray} (hx : ev E x = some (.string s)) (hy : ev E y = some (.string u)) : Val P N z E M ⟨dst, .binOp .eql t x y yt, ty, pos, af, gu⟩ (.bool (s.toList == u.toList)) := fun a w ha hw => by
  simp [execOp, ha.ev hx, ha.ev hy, eqGuard_at_string, binOp, Op.stringOp]
theorem Val.neqS {s u : ByteArray} (hx : ev E x = some (.string s)) (hy : ev E y = some (.string u)) : Val P N z E M ⟨dst, .binOp .neq t x y yt, ty, pos, af, gu⟩ (.bool (!(s.toList == u.toList))) := fun a w ha hw => by
  simp [execOp, ha.ev hx, ha.ev hy, eqGuard_at_string, binOp, Op.stringOp]
theorem Val.addS {s u : ByteArray} (hx : ev E x = some (.string s)) (hy : ev E y = some (.string u)) (hl : s.size + u.size ≤ 9223372036854775807) : Val P N z E M ⟨dst, .binOp .add t x y yt, ty, pos, af, gu⟩ (.string (s ++ u)) := fun a w ha hw => by
  have : ¬ (((s.size + u.size : Nat) : Int) > IntKind.i64.max) := by simp [IntKind.max, IntKind.signed, IntKind.bits]; omega
  simp only [execOp, ha.ev hx, ha.ev hy, eqGuard_at_string, binOp, Op.stringOp, this, if_false]
  rfl

/-! slices -/
theorem Val.lenSl {e : TypeId} {p : Option Addr} {l c : Nat} {at_ : Array TypeId} (hx : ev E x = some (.slice p l c)) (ha0 : at_[0]? = some t) (ht : slQ P t = some e) :
    Val P N z E M ⟨dst, .call ⟨.builtin .len, #[x], at_⟩, ty, pos, af, gu⟩ (.int .i64 l) := fun a w ha hw => by
  simp [execOp, resolve, invoke, builtin, Builtin.len_, ha.ev hx, ha0, run_underlying (slQ_spec ht), Result.andThen, goInt]

theorem Val.lenStr {s : ByteArray} {at_ : Array TypeId} (hx : ev E x = some (.string s)) (ha0 : at_[0]? = some t) (ht : P.underlying t = some .string) :
    Val P N z E M ⟨dst, .call ⟨.builtin .len, #[x], at_⟩, ty, pos, af, gu⟩ (.int .i64 s.size) := fun a w ha hw => by
  simp [execOp, resolve, invoke, builtin, Builtin.len_, ha.ev hx, ha0, run_underlying ht, Result.andThen, goInt]

theorem Val.min {at_ : Array TypeId} (hx : ev E x = some (.int k m)) (hy : ev E y = some (.int k n)) (hr : (if n < m then n else m) = r) : Val P N z E M ⟨dst, .call ⟨.builtin .min, #[x, y], at_⟩, ty, pos, af, gu⟩ (.int k r) := fun a w ha hw => by
  subst hr
  simp [execOp, resolve, invoke, builtin, Builtin.min_, Builtin.min2, ha.ev hx, ha.ev hy, Result.andThen]
theorem Val.max {at_ : Array TypeId} (hx : ev E x = some (.int k m)) (hy : ev E y = some (.int k n)) (hr : (if n > m then n else m) = r) : Val P N z E M ⟨dst, .call ⟨.builtin .max, #[x, y], at_⟩, ty, pos, af, gu⟩ (.int k r) := fun a w ha hw => by
  subst hr
  simp [execOp, resolve, invoke, builtin, Builtin.max_, Builtin.max2, ha.ev hx, ha.ev hy, Result.andThen]

/-- &x[i] of a slice -/
theorem Val.indexAddr {e : TypeId} {b o l c i sz r : Nat} (hx : ev E x = some (.slice (some ⟨b, o, none⟩) l c)) (hy : ev E y = some (.int k m)) (ht : slQ P t = some e) (hsz : sizQ P e = some sz) (hm : m = (i : Int)) (hi : i < l) (hr : o + i * sz = r) :
    Val P N z E M ⟨dst, .indexAddr t x y, ty, pos, af, gu⟩ (.pointer (some ⟨b, r, none⟩)) := fun a w ha hw => by
  subst hm; subst hr
  have h1 : (0 : Int) ≤ i ∧ (i : Int) < l := ⟨by omega, by omega⟩
  simp [execOp, Instr.indexAt, ha.ev hx, ha.ev hy, asIntOf, run_underlying (slQ_spec ht), Result.andThen, hi, run_sizeOf hsz, addr_add]

def arQ (P : Program) (t : TypeId) : Option (Nat × TypeId) := match P.underlying t with | some (.array n e) => some (n, e) | _ => none
theorem arQ_spec {t e n} (h : arQ P t = some (n, e)) : P.underlying t = some (.array n e) := by
  unfold arQ at h; split at h
  · rename_i n' e' he; cases h; exact he
  · cases h

/-- &x[i] of an array behind a pointer -/
theorem Val.indexAddrA {e : TypeId} {b o l i sz r : Nat} (hx : ev E x = some (.pointer (some ⟨b, o, none⟩))) (hy : ev E y = some (.int k m)) (ht : arQ P t = some (l, e)) (hsz : sizQ P e = some sz) (hm : m = (i : Int)) (hi : i < l) (hr : o + i * sz = r) :
    Val P N z E M ⟨dst, .indexAddr t x y, ty, pos, af, gu⟩ (.pointer (some ⟨b, r, none⟩)) := fun a w ha hw => by
  subst hm; subst hr
  simp [execOp, Instr.indexAt, Instr.sureAddr, ha.ev hx, ha.ev hy, asIntOf, run_underlying (arQ_spec ht), Result.andThen, hi, run_sizeOf hsz, addr_add]

/-- x[i] of an array value -/
theorem Val.indexA {e : TypeId} {cs : Array Value} {l i sz : Nat} {v : Value} (hx : ev E x = some (.agg cs)) (hy : ev E y = some (.int k m)) (ht : arQ P t = some (l, e)) (hsz : sizQ P e = some sz) (hg : aggQ P e = some false) (hm : m = (i : Int)) (hi : i < l)
    (hv : nth cs.toList (i * sz) = some v) : Val P N z E M ⟨dst, .index t x y, ty, pos, af, gu⟩ v := fun a w ha hw => by
  rw [nth_eq, Array.getElem?_toList] at hv
  subst hm
  simp [execOp, Instr.index, part, ha.ev hx, ha.ev hy, asIntOf, run_underlying (arQ_spec ht), Result.andThen, hi, run_sizeOf hsz, run_isAgg hg, hv]

/-- s[i] of a string -/
theorem Val.indexS {s : ByteArray} {i : Nat} {c : UInt8} (hx : ev E x = some (.string s)) (hy : ev E y = some (.int k m)) (ht : P.underlying t = some .string) (hm : m = (i : Int)) (hc : s[i]? = some c) :
    Val P N z E M ⟨dst, .index t x y, ty, pos, af, gu⟩ (.int .u8 c.toNat) := fun a w ha hw => by
  subst hm
  simp [execOp, Instr.index, ha.ev hx, ha.ev hy, asIntOf, run_underlying ht, Result.andThen, hc]

/-- x[lo:hi] of a slice; lo, hi as they are told -/
def bnd (E : Env) (d : Nat) : Option Operand → Option Int
  | none => some d
  | some x => match ev E x with | some (.int _ n) => some n | _ => none

theorem run_bound {x : Operand} {a : Act} (ha : Has N E a) {d : Nat} {n : Int} (hb : bnd E d (some x) = some n) {w : World} {cap : Nat} {i : Nat} (hn : n = (i : Int)) (hi : i ≤ cap) (code : BoundsCode) :
    (Instr.sliceBound (a.eval x) cap code).run P w = .ok i w := by
  subst hn
  simp only [bnd] at hb
  split at hb
  · rename_i k' n' he
    cases hb
    simp [Instr.sliceBound, ha.ev he, asIntOf, Result.andThen, hi]
  · cases hb

theorem Val.slice {e : TypeId} {p : Option Addr} {l c i j sz : Nat} {lo hi : Option Operand} {q : Option Addr} {il ih : Int} (hx : ev E x = some (.slice p l c)) (ht : slQ P t = some e) (hsz : sizQ P e = some sz)
    (hlo : bnd E 0 lo = some il) (hhi : bnd E l hi = some ih) (hil : il = (i : Int)) (hih : ih = (j : Int)) (hij : i ≤ j) (hjc : j ≤ c)
    (hq : (if c = i then p else p.map (·.add (i * sz))) = q) :
    Val P N z E M ⟨dst, .slice t x lo hi none, ty, pos, af, gu⟩ (.slice q (j - i) (c - i)) := fun a w ha hw => by
  subst hq
  have h3 : (Instr.sliceBounds true l c (lo.map a.eval) (hi.map a.eval) none).run P w = .ok (i, j, c) w := by
    cases hi with
    | none =>
      have hj : l = j := by simp [bnd] at hhi; omega
      subst hj
      cases lo with
      | none =>
        have hi0 : i = 0 := by simp [bnd] at hlo; omega
        subst hi0
        rfl
      | some v =>
        have h1 := run_bound (P := P) ha (d := 0) hlo (w := w) (cap := l) hil hij .sliceB
        simp only [Instr.sliceBounds, Option.map_some, Option.map_none, Sem.run_bind, Sem.run_pure, Result.andThen, Option.isSome_none, Bool.false_eq_true, if_false, h1]
    | some u =>
      have h2 := run_bound (P := P) ha (d := l) hhi (w := w) (cap := c) hih hjc .sliceAcap
      cases lo with
      | none =>
        have hi0 : i = 0 := by simp [bnd] at hlo; omega
        subst hi0
        simp only [Instr.sliceBounds, Option.map_some, Option.map_none, Sem.run_bind, Sem.run_pure, Result.andThen, if_true, h2]
      | some v =>
        have h1 := run_bound (P := P) ha (d := 0) hlo (w := w) (cap := j) hil hij .sliceB
        simp only [Instr.sliceBounds, Option.map_some, Option.map_none, Sem.run_bind, Sem.run_pure, Result.andThen, Option.isSome_none, Bool.false_eq_true, if_false, if_true, h2, h1]
  simp only [execOp, ha.ev hx, Instr.sliceAt, Instr.slice, Sem.run_bind, run_underlying (slQ_spec ht), Result.andThen, Option.map_none, h3, run_sizeOf hsz, Sem.run_pure]
end
end Go.X
