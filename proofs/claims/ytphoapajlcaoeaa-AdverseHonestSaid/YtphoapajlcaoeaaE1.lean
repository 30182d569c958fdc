/- The engine: the operations that only compute or read. -/
import Derived.Test.YtphoapajlcaoeaaE0
set_option linter.unusedVariables false
set_option linter.unusedSimpArgs false
namespace Go.X
open Go Go.RowKit

/-- In every frame of E and world of M the operation yields v and leaves the world. -/
def Val (P : Program) (N : Nat) (z : World) (E : Env) (M : Hp) (o : Oper) (v : Value) : Prop :=
  ∀ a w, Has N E a → Own z w M → (execOp a.eval o).run P w = .ok (.value v) w

def gd (g want : Bool) (v : Value) : Value := bif g == want then v else undef

section
variable {P : Program} {N : Nat} {z : World} {Q : Exit → Act → World → Prop} {E : Env} {M : Hp} {ops : Array Oper} {rest : List Oper}

theorem TL.op {o : Oper} (hg : o.guard = none) (h : ∀ a w, Has N E a → Own z w M → o.wp P a w (wpList P ops Q rest) Q) : TL P N z ops Q (o :: rest) E M :=
  fun a w ha hw => wpList_plain hg fun K hK => Oper.wp_mono hK (h a w ha hw)

theorem TL.val {o : Oper} {d : Nat} {v : Value} (hg : o.guard = none) (hd : o.dst = some d) (hN : d < N) (h : Val P N z E M o v) (k : TL P N z ops Q rest ((d, v) :: E) M) :
    TL P N z ops Q (o :: rest) E M :=
  TL.op hg fun a w ha hw => by
    simp only [Oper.wp, h a w ha hw, Oper.upon, hd]
    exact k _ _ (ha.put hN v) hw

theorem yielded_look {a : Act} {j d : Nat} (ha : Has N E a) (hd : d < N) (hj : (ops[j]?).bind (·.dst) = some d) {b : Bool} (hb : look E d = some (.bool b)) : yielded ops a.tmps j = some b := by
  have := ha.get _ _ hb
  simp only [yielded, hj, Option.bind_some]
  rw [Array.getElem?_eq_getElem (by rw [ha.size]; exact hd)]
  rw [Array.getD_eq_getD_getElem?, Array.getElem?_eq_getElem (by rw [ha.size]; exact hd)] at this
  simp at this
  rw [this]

/-- A guarded operation whose guard says no. -/
theorem TL.pass {o : Oper} {d j dj : Nat} {want b : Bool} (hg : o.guard = some (j, want)) (hd : o.dst = some d) (hN : d < N) (hj : (ops[j]?).bind (·.dst) = some dj) (hM : dj < N)
    (hb : look E dj = some (.bool b)) (hne : (b == want) = false) (k : TL P N z ops Q rest ((d, undef) :: E) M) : TL P N z ops Q (o :: rest) E M := fun a w ha hw => by
  have hy := yielded_look ha hM hj hb
  have hw' : Region.wanted o (yielded ops a.tmps) = false := by
    simp only [Region.wanted, hg, hy]
    cases b <;> cases want <;> simp at hne ⊢
  refine wpList_skip hw' ?_
  rw [hd]
  exact k _ _ (ha.put hN _) hw

theorem yielded_undef {a : Act} {j d : Nat} (ha : Has N E a) (hd : d < N) (hj : (ops[j]?).bind (·.dst) = some d) (hb : look E d = some undef) : yielded ops a.tmps j = none := by
  have := ha.get _ _ hb
  simp only [yielded, hj, Option.bind_some]
  rw [Array.getElem?_eq_getElem (by rw [ha.size]; exact hd)]
  rw [Array.getD_eq_getD_getElem?, Array.getElem?_eq_getElem (by rw [ha.size]; exact hd)] at this
  simp at this
  rw [this]
  rfl
theorem TL.passU {o : Oper} {d j dj : Nat} {want : Bool} (hg : o.guard = some (j, want)) (hd : o.dst = some d) (hN : d < N) (hj : (ops[j]?).bind (·.dst) = some dj) (hM : dj < N)
    (hb : look E dj = some undef) (k : TL P N z ops Q rest ((d, undef) :: E) M) : TL P N z ops Q (o :: rest) E M := fun a w ha hw => by
  have hw' : Region.wanted o (yielded ops a.tmps) = false := by
    simp only [Region.wanted, hg, yielded_undef ha hM hj hb]
    rfl
  refine wpList_skip hw' ?_
  rw [hd]
  exact k _ _ (ha.put hN _) hw

theorem TL.passNone {o : Oper} {j dj : Nat} {want b : Bool} (hg : o.guard = some (j, want)) (hd : o.dst = none) (hj : (ops[j]?).bind (·.dst) = some dj) (hM : dj < N)
    (hb : look E dj = some (.bool b)) (hne : (b == want) = false) (k : TL P N z ops Q rest E M) : TL P N z ops Q (o :: rest) E M := fun a w ha hw => by
  have hy := yielded_look ha hM hj hb
  have hw' : Region.wanted o (yielded ops a.tmps) = false := by
    simp only [Region.wanted, hg, hy]
    cases b <;> cases want <;> simp at hne ⊢
  refine wpList_skip hw' ?_
  rw [hd]
  exact k _ _ ha hw

theorem wanted_yes {a : Act} {o : Oper} {j dj : Nat} {want : Bool} (hg : o.guard = some (j, want)) (ha : Has N E a) (hj : (ops[j]?).bind (·.dst) = some dj) (hM : dj < N)
    (hb : look E dj = some (.bool want)) : Region.wanted o (yielded ops a.tmps) = true := by
  simp only [Region.wanted, hg, yielded_look ha hM hj hb]
  simp

/-- A guarded operation whose guard says yes. -/
theorem TL.opYes {o : Oper} {j dj : Nat} {want : Bool} (hg : o.guard = some (j, want)) (hj : (ops[j]?).bind (·.dst) = some dj) (hM : dj < N) (hb : look E dj = some (.bool want))
    (h : ∀ a w, Has N E a → Own z w M → o.wp P a w (wpList P ops Q rest) Q) : TL P N z ops Q (o :: rest) E M := fun a w ha hw =>
  wpList_step fun K hK => by
    rw [if_pos (wanted_yes hg ha hj hM hb)]
    exact Oper.wp_mono hK (h a w ha hw)

/-- A guarded operation that only reads, whatever the guard says. -/
theorem TL.gval {o : Oper} {d j dj : Nat} {want g : Bool} {v : Value} (hg : o.guard = some (j, want)) (hd : o.dst = some d) (hN : d < N) (hj : (ops[j]?).bind (·.dst) = some dj) (hM : dj < N)
    (hb : look E dj = some (.bool g)) (h : g = want → Val P N z E M o v) (k : TL P N z ops Q rest ((d, gd g want v) :: E) M) : TL P N z ops Q (o :: rest) E M := by
  by_cases e : g = want
  · subst e
    refine TL.opYes hg hj hM hb fun a w ha hw => ?_
    simp only [Oper.wp, h rfl a w ha hw, Oper.upon, hd]
    have : gd g g v = v := by simp [gd]
    rw [this] at k
    exact k _ _ (ha.put hN v) hw
  · have : gd g want v = undef := by cases g <;> cases want <;> simp_all [gd]
    rw [this] at k
    exact TL.pass hg hd hN hj hM hb (by simp [e]) k

/-- A Bool under a name of its own. -/
theorem TL.gen {l : List Oper} {d : Nat} {b : Bool} (k : ∀ g, g = b → TL P N z ops Q l ((d, .bool g) :: E) M) : TL P N z ops Q l ((d, .bool b) :: E) M := k b rfl

/-! ### values -/

/-- Is t no struct and no array? -/
def aggQ (P : Program) (t : TypeId) : Option Bool := (P.underlying t).map fun | .struct _ => true | .array _ _ => true | _ => false
def sizQ (P : Program) (t : TypeId) : Option Nat := (P.info? t).map (·.size)
def bytQ (P : Program) (t : TypeId) : Option Nat := (P.info? t).map (·.bytes)
def zerQ (P : Program) (t : TypeId) : Option Value := (P.info? t).bind (·.zero)
def fldQ (P : Program) (t : TypeId) (f : Nat) : Option (Nat × TypeId) := match P.underlying t with | some (.struct fs) => (fs[f]?).map fun x => (x.offset, x.type) | _ => none

theorem run_isAgg {t : TypeId} {b : Bool} (h : aggQ P t = some b) (w : World) : (isAgg t).run P w = .ok b w := by
  simp only [aggQ, Option.map_eq_some_iff] at h
  obtain ⟨d, hd, hb⟩ := h
  simp only [isAgg, Sem.run_bind, run_underlying hd, Result.andThen]
  subst hb
  cases d <;> rfl

theorem run_sizeOf {t : TypeId} {n : Nat} (h : sizQ P t = some n) (w : World) : (sizeOf t).run P w = .ok n w := by
  simp only [sizQ, Option.map_eq_some_iff] at h
  obtain ⟨i, hi, rfl⟩ := h
  simp [sizeOf, typeInfo, hi]

theorem run_zero {t : TypeId} {v : Value} (h : zerQ P t = some v) (w : World) : (zeroValue t).run P w = .ok v w := by
  simp only [zerQ, Option.bind_eq_some_iff] at h
  obtain ⟨i, hi, hz⟩ := h
  simp [zeroValue, typeInfo, hi, hz]

section
variable {dst : Option Tmp} {ty : TypeId} {pos : String} {af : Array Edge} {gu : Option (Nat × Bool)}

theorem Val.move {x : Operand} {v : Value} (h : ev E x = some v) : Val P N z E M ⟨dst, .move x, ty, pos, af, gu⟩ v := fun a w ha hw => by
  simp [execOp, ha.ev h]

theorem Val.assign {x : Operand} {v : Value} (h : ev E x = some v) : Val P N z E M ⟨dst, .assign x, ty, pos, af, gu⟩ v := fun a w ha hw => by
  simp [execOp, ha.ev h]

theorem Val.pick {c x y : Operand} {g : Bool} {u v : Value} (hc : ev E c = some (.bool g)) (hx : ev E x = some u) (hy : ev E y = some v) :
    Val P N z E M ⟨dst, .pick c x y, ty, pos, af, gu⟩ (bif g then u else v) := fun a w ha hw => by
  simp only [execOp, ha.ev hc, ha.ev hx, ha.ev hy, asBool]
  cases g <;> rfl

theorem Val.pickAnd {c x y : Operand} {g b : Bool} (hc : ev E c = some (.bool g)) (hx : ev E x = some (gd g true (.bool b))) (hy : ev E y = some (.bool false)) :
    Val P N z E M ⟨dst, .pick c x y, ty, pos, af, gu⟩ (.bool (g && b)) := by
  have := Val.pick (P := P) (N := N) (z := z) (M := M) (dst := dst) (ty := ty) (pos := pos) (af := af) (gu := gu) hc hx hy
  cases g <;> exact this

theorem Val.pickOr {c x y : Operand} {g b : Bool} (hc : ev E c = some (.bool g)) (hx : ev E x = some (.bool true)) (hy : ev E y = some (gd g false (.bool b))) :
    Val P N z E M ⟨dst, .pick c x y, ty, pos, af, gu⟩ (.bool (g || b)) := by
  have := Val.pick (P := P) (N := N) (z := z) (M := M) (dst := dst) (ty := ty) (pos := pos) (af := af) (gu := gu) hc hx hy
  cases g <;> exact this

theorem addr_add (b o n : Nat) : (⟨b, o, none⟩ : Addr).add n = ⟨b, o + n, none⟩ := by
  unfold Addr.add; split <;> simp_all

theorem Val.fieldAddr {s : TypeId} {x : Operand} {f b o off r : Nat} {ft : TypeId} {n : Nat} (hx : ev E x = some (.pointer (some ⟨b, o, none⟩))) (hf : fldQ P s f = some (off, ft)) (hn : sizQ P ft = some (n + 1)) (hr : o + off = r) :
    Val P N z E M ⟨dst, .fieldAddr s x f, ty, pos, af, gu⟩ (.pointer (some ⟨b, r, none⟩)) := fun a w ha hw => by
  subst hr
  unfold fldQ at hf
  split at hf
  · rename_i fs hfs
    simp only [Option.map_eq_some_iff] at hf
    obtain ⟨fd, h1, h2⟩ := hf
    cases h2
    simp [execOp, ha.ev hx, Instr.fieldAt, run_underlying hfs, h1, Instr.sureAddr, fieldPlace, run_sizeOf hn, Result.andThen, addr_add]
  · cases hf

theorem Val.nilCheck {x : Operand} {p : Addr} (hx : ev E x = some (.pointer (some p))) : Val P N z E M ⟨dst, .nilCheck x, ty, pos, af, gu⟩ (.pointer (some p)) := fun a w ha hw => by
  simp [execOp, ha.ev hx]

theorem cell_of {w : World} {b off : Nat} {cs : Array Value} {T : TypeId} {fz : Nat × Nat} (h : w.heap[b]? = some (.cells cs T fz)) : w.cell? ⟨b, off, none⟩ = cs[off]? := by
  simp [World.cell?, h]

def nth : List Value → Nat → Option Value
  | [], _ => none
  | x :: _, 0 => some x
  | _ :: r, n + 1 => nth r n
theorem nth_eq : ∀ (l : List Value) (n : Nat), nth l n = l[n]?
  | [], n => by simp [nth]
  | x :: r, 0 => by simp [nth]
  | x :: r, n + 1 => by simp [nth, nth_eq r n]

/-- so many from a place on -/
def seg : List Value → Nat → Nat → List Value
  | _, _, 0 => []
  | [], _, _ => []
  | x :: r, 0, n + 1 => x :: seg r 0 n
  | _ :: r, o + 1, n + 1 => seg r o (n + 1)
theorem seg_eq : ∀ (l : List Value) (o n : Nat), seg l o n = (l.drop o).take n
  | l, o, 0 => by cases l <;> simp [seg]
  | [], o, n + 1 => by simp [seg]
  | x :: r, 0, n + 1 => by simp [seg, seg_eq r 0 n]
  | x :: r, o + 1, n + 1 => by simp [seg, seg_eq r o (n + 1)]
theorem seg_arr {cs : Array Value} {off n : Nat} {vs : List Value} (h : seg cs.toList off n = vs) : cs.extract off (off + n) = vs.toArray := by
  apply Array.ext'
  rw [seg_eq] at h
  rw [← h]
  simp

theorem Val.load {t : TypeId} {x : Operand} {b off : Nat} {cs : Array Value} {T : TypeId} {fz : Nat × Nat} {v : Value} (i : Nat) (hx : ev E x = some (.pointer (some ⟨b, off, none⟩))) (ht : aggQ P t = some false)
    (hi : M[i]? = some (b, .cells cs T fz)) (hv : nth cs.toList off = some v) : Val P N z E M ⟨dst, .load t x, ty, pos, af, gu⟩ v := fun a w ha hw => by
  rw [nth_eq, Array.getElem?_toList] at hv
  have hc := (cell_of (off := off) (hw.at hi)).trans hv
  simp [execOp, ha.ev hx, Instr.loadAt, Instr.sureAddr, loadVar, run_isAgg ht, Result.andThen, hc]

theorem Val.loadAgg {t : TypeId} {x : Operand} {b off n : Nat} {cs : Array Value} {T : TypeId} {fz : Nat × Nat} {vs : List Value} (i : Nat) (hx : ev E x = some (.pointer (some ⟨b, off, none⟩))) (ht : aggQ P t = some true)
    (hn : sizQ P t = some n) (hi : M[i]? = some (b, .cells cs T fz)) (hv : seg cs.toList off n = vs) (hs : vs.length = n) : Val P N z E M ⟨dst, .load t x, ty, pos, af, gu⟩ (.agg vs.toArray) := fun a w ha hw => by
  have hv := seg_arr hv
  have hl := run_loadCells_list (P := P) (w := w) ⟨b, off, none⟩ vs (fun j v hj => by
    rw [addr_add, cell_of (hw.at hi)]
    have : vs.toArray[j]? = some v := by simpa using hj
    rw [← hv, Array.getElem?_extract] at this
    split at this
    · exact this
    · cases this)
  simp only [hs] at hl
  simp [execOp, ha.ev hx, Instr.loadAt, Instr.sureAddr, loadVar, run_isAgg ht, run_sizeOf hn, Result.andThen, hl]

theorem Val.extract {x : Operand} {vs : Array Value} {i : Nat} {v : Value} (hx : ev E x = some (.tuple vs)) (hv : nth vs.toList i = some v) : Val P N z E M ⟨dst, .extract x i, ty, pos, af, gu⟩ v := fun a w ha hw => by
  rw [nth_eq, Array.getElem?_toList] at hv
  simp [execOp, ha.ev hx, Instr.extract, hv]

theorem Val.field {t : TypeId} {x : Operand} {f : Nat} {cs : Array Value} {off : Nat} {ft : TypeId} {v : Value} (hx : ev E x = some (.agg cs)) (hf : fldQ P t f = some (off, ft)) (ht : aggQ P ft = some false) (hv : nth cs.toList off = some v) :
    Val P N z E M ⟨dst, .field t x f, ty, pos, af, gu⟩ v := fun a w ha hw => by
  rw [nth_eq, Array.getElem?_toList] at hv
  unfold fldQ at hf
  split at hf
  · rename_i fs hfs
    simp only [Option.map_eq_some_iff] at hf
    obtain ⟨fd, h1, h2⟩ := hf
    cases h2
    simp [execOp, ha.ev hx, Instr.field, run_underlying hfs, h1, part, asAgg, run_isAgg ht, Result.andThen, hv]
  · cases hf

theorem Val.fieldAgg {t : TypeId} {x : Operand} {f : Nat} {cs : Array Value} {vs : List Value} {off n : Nat} {ft : TypeId} (hx : ev E x = some (.agg cs)) (hf : fldQ P t f = some (off, ft)) (ht : aggQ P ft = some true) (hn : sizQ P ft = some n) (hv : seg cs.toList off n = vs) :
    Val P N z E M ⟨dst, .field t x f, ty, pos, af, gu⟩ (.agg vs.toArray) := fun a w ha hw => by
  have hv := seg_arr hv
  unfold fldQ at hf
  split at hf
  · rename_i fs hfs
    simp only [Option.map_eq_some_iff] at hf
    obtain ⟨fd, h1, h2⟩ := hf
    cases h2
    simp [execOp, ha.ev hx, Instr.field, run_underlying hfs, h1, part, asAgg, run_isAgg ht, run_sizeOf hn, Result.andThen, hv]
  · cases hf

end
end
end Go.X
