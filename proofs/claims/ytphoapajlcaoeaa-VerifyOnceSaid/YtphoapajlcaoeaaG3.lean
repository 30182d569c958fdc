/- Texts put together: E19. -/
import Derived.Test.YtphoapajlcaoeaaG2
import Derived.Laws.StructEq
/- The engine: structs that are compared. -/
set_option linter.unusedVariables false
set_option linter.unusedSimpArgs false
namespace Go.X
open Go Go.RowKit
/-- What comes of comparing two values of a type, n deep at most. -/
def EqV (P : Program) (n : Nat) (t : TypeId) (a b : Value) (r : Bool) : Prop := ∀ d w, (Op.equalIn (d + n) t a b).run P w = .ok r w
/-- What comes of comparing the fields from number i on. -/
def EqI (P : Program) (n : Nat) (t : TypeId) (xs ys : Array Value) (i : Nat) (r : Bool) : Prop := ∀ d w, (Op.eqFields (d + n) xs ys ((P.fieldsOf t).toList.drop i)).run P w = .ok r w
def namesQ (P : Program) (t : TypeId) : Bool := (P.fieldsOf t).toList.all (fun f => f.name != "_")
def strQ (P : Program) (t : TypeId) : Bool := match P.underlying t with | some (.struct _) => !(P.stoodInHeld t) | _ => false
section
variable {P : Program} {N : Nat} {z : World} {E : Env} {M : Hp}
variable {dst : Option Tmp} {ty : TypeId} {pos : String} {af : Array Edge} {gu : Option (Nat × Bool)} {t yt : TypeId} {x y : Operand}
theorem EqV.int {n : Nat} {k k' : IntKind} {a b : Int} (h : intQ P t = some k') : EqV P (n + 1) t (.int k a) (.int k b) (decide (a = b)) := fun d w => by
  rw [← Nat.add_assoc, run_equalIn_int w (d + n) t k k' a b (intQ_spec h)]
  rfl
theorem EqV.bool {n : Nat} {a b : Bool} (h : P.underlying t = some .bool) : EqV P (n + 1) t (.bool a) (.bool b) (a == b) := fun d w => by
  rw [← Nat.add_assoc]
  exact run_equalIn_bool' w (d + n) t a b h
theorem fldQ_fs {t : TypeId} {i off : Nat} {ft : TypeId} (h : fldQ P t i = some (off, ft)) : ∃ f : Field, (P.fieldsOf t).toList[i]? = some f ∧ f.offset = off ∧ f.type = ft := by
  unfold fldQ at h
  split at h
  · rename_i fs hfs
    simp only [Option.map_eq_some_iff] at h
    obtain ⟨f, h1, h2⟩ := h
    cases h2
    exact ⟨f, by rw [Program.fieldsOf]; simp only [hfs]; simpa using h1, rfl, rfl⟩
  · cases h
theorem EqI.done {n : Nat} {xs ys : Array Value} {i : Nat} (h : (P.fieldsOf t).size ≤ i) : EqI P n t xs ys i true := fun d w => by
  rw [List.drop_eq_nil_of_le (by simpa using h)]
  simp [Op.eqFields]
theorem EqI.cons {n : Nat} {xs ys : Array Value} {i off : Nat} {ft : TypeId} {a b : Value} {r1 r2 : Bool} (hf : fldQ P t i = some (off, ft)) (hn : namesQ P t = true) (ha : aggQ P ft = some false) (hx : nth xs.toList off = some a) (hy : nth ys.toList off = some b)
    (h : EqV P n ft a b r1) (k : EqI P n t xs ys (i + 1) r2) : EqI P n t xs ys i (r1 && r2) := fun d w => by
  obtain ⟨f, h1, h2, h3⟩ := fldQ_fs hf
  have hlt : i < (P.fieldsOf t).toList.length := (List.getElem?_eq_some_iff.1 h1).1
  have he : (P.fieldsOf t).toList.drop i = f :: (P.fieldsOf t).toList.drop (i + 1) := by
    rw [List.drop_eq_getElem_cons hlt]
    congr 1
    exact (List.getElem?_eq_some_iff.1 h1).2
  have hne : f.name ≠ "_" := by
    have := List.all_eq_true.1 hn f (List.mem_of_getElem? h1)
    simpa using this
  rw [nth_eq, Array.getElem?_toList] at hx hy
  have p1 : (part f.type xs f.offset).run P w = .ok a w := by
    rw [h2, h3]; simp [part, run_isAgg ha, Result.andThen, hx]
  have p2 : (part f.type ys f.offset).run P w = .ok b w := by
    rw [h2, h3]; simp [part, run_isAgg ha, Result.andThen, hy]
  rw [he]
  simp only [Op.eqFields, hne, ne_eq, not_false_eq_true, if_true, Sem.run_bind, p1, p2, Result.andThen_ok]
  rw [h3, h d w]
  simp only [Result.andThen_ok]
  cases r1
  · simp
  · simpa using k d w
theorem EqV.struct {n : Nat} {xs ys : Array Value} {r : Bool} (hs : strQ P t = true) (h : EqI P n t xs ys 0 r) : EqV P (n + 1) t (.agg xs) (.agg ys) r := fun d w => by
  unfold strQ at hs
  split at hs
  · rename_i fs hfs
    have e : P.fieldsOf t = fs := by simp [Program.fieldsOf, hfs]
    rw [← Nat.add_assoc, run_equalIn_struct w (d + n) t xs ys (by rw [e]; exact hfs) (by simpa using hs)]
    have := h d w
    rwa [List.drop_zero] at this
  · cases hs
theorem Val.eqlG {n : Nat} {xs ys : Array Value} {b : Bool} (hx : ev E x = some (.agg xs)) (hy : ev E y = some (.agg ys)) (he : P.eqGuardType P.depth t = false) (h : EqV P n t (.agg xs) (.agg ys) b) (hn : n ≤ 10000) :
    Val P N z E M ⟨dst, .binOp .eql t x y yt, ty, pos, af, gu⟩ (.bool b) := fun a w ha hw => by
  have hq : (eqGuard .eql t x y (.agg xs) (.agg ys)).run P w = .ok () w := by
    simp [eqGuard, he]
  have h2 : (Op.equal t (.agg xs) (.agg ys)).run P w = .ok b w := by
    have := h (10000 - n) w
    rw [show 10000 - n + n = 10000 by omega] at this
    exact this
  simp only [execOp, ha.ev hx, ha.ev hy, hq, binOp, Sem.run_bind, Sem.run_pure, h2, Result.andThen]
theorem Val.neqG {n : Nat} {xs ys : Array Value} {b : Bool} (hx : ev E x = some (.agg xs)) (hy : ev E y = some (.agg ys)) (he : P.eqGuardType P.depth t = false) (h : EqV P n t (.agg xs) (.agg ys) b) (hn : n ≤ 10000) :
    Val P N z E M ⟨dst, .binOp .neq t x y yt, ty, pos, af, gu⟩ (.bool (!b)) := fun a w ha hw => by
  have hq : (eqGuard .neq t x y (.agg xs) (.agg ys)).run P w = .ok () w := by
    simp [eqGuard, he]
  have h2 : (Op.equal t (.agg xs) (.agg ys)).run P w = .ok b w := by
    have := h (10000 - n) w
    rw [show 10000 - n + n = 10000 by omega] at this
    exact this
  simp only [execOp, ha.ev hx, ha.ev hy, hq, binOp, Sem.run_bind, Sem.run_pure, h2, Result.andThen]
end
end Go.X
