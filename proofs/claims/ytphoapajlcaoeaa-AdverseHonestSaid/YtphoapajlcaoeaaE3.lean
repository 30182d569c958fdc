/- The engine: the operations that make or write memory; calls. -/
import Derived.Test.YtphoapajlcaoeaaE2
set_option linter.unusedVariables false
set_option linter.unusedSimpArgs false
namespace Go.X
open Go Go.RowKit

def one : Value → Bool
  | .agg _ | .tuple _ => false
  | _ => true

def row (T : TypeId) (l : List Value) : Obj := .cells l.toArray T (0, 0)

def putE (d : Option Nat) (v : Value) (E : Env) : Env := match d with | some d => (d, v) :: E | none => E

theorem Has.putE {N : Nat} {E : Env} {a : Act} (h : Has N E a) {d : Option Nat} (hd : ∀ k, d = some k → k < N) (v : Value) : Has N (X.putE d v E) (a.put d v) := by
  cases d with
  | none => exact h
  | some d => exact h.put (hd d rfl) v

def ltN (d : Option Nat) (N : Nat) : Bool := match d with | some d => Nat.blt d N | none => true
theorem ltN_spec {d : Option Nat} {N : Nat} (h : ltN d N = true) : ∀ k, d = some k → k < N := by
  intro k hk; subst hk; simpa [ltN] using h

/-- The operation, from every frame of E and world of M: what it yields and what the world then holds is as R says. -/
def Does (P : Program) (N : Nat) (z : World) (E : Env) (M : Hp) (o : Oper) (R : Value → Hp → Prop) : Prop :=
  ∀ a w (K : Act → World → Prop) (Q : Exit → Act → World → Prop), Has N E a → Own z w M → (∀ v M' w', R v M' → Own z w' M' → K (a.put o.dst v) w') → o.wp P a w K Q

section
variable {P : Program} {N : Nat} {z : World} {Q : Exit → Act → World → Prop} {E : Env} {M : Hp} {ops : Array Oper} {rest : List Oper} {o : Oper} {R : Value → Hp → Prop}

theorem Val.does {v : Value} (h : Val P N z E M o v) : Does P N z E M o (fun u M' => u = v ∧ M = M') := fun a w K Q ha hw k => by
  simp only [Oper.wp, h a w ha hw, Oper.upon]
  exact k v M w ⟨rfl, rfl⟩ hw

theorem Does.mono {R' : Value → Hp → Prop} (h : Does P N z E M o R) (hr : ∀ v M', R v M' → R' v M') : Does P N z E M o R' := fun a w K Q ha hw k => h a w K Q ha hw fun v M' w' hR ho => k v M' w' (hr v M' hR) ho

theorem TL.does (d : Option Nat) (hd : o.dst = d) (hg : o.guard = none) (hN : ltN d N = true) (h : Does P N z E M o R) (k : ∀ v M', R v M' → TL P N z ops Q rest (putE d v E) M') : TL P N z ops Q (o :: rest) E M :=
  TL.op hg fun a w ha hw => by subst hd; exact h a w _ Q ha hw fun v M' w' hR ho => k v M' hR _ _ (ha.putE (ltN_spec hN) v) ho

theorem TL.doesYes {j dj : Nat} {want : Bool} (d : Option Nat) (hd : o.dst = d) (hg : o.guard = some (j, want)) (hj : (ops[j]?).bind (·.dst) = some dj) (hM : dj < N) (hb : look E dj = some (.bool want)) (hN : ltN d N = true)
    (h : Does P N z E M o R) (k : ∀ v M', R v M' → TL P N z ops Q rest (putE d v E) M') : TL P N z ops Q (o :: rest) E M :=
  TL.opYes hg hj hM hb fun a w ha hw => by subst hd; exact h a w _ Q ha hw fun v M' w' hR ho => k v M' hR _ _ (ha.putE (ltN_spec hN) v) ho

theorem TL.valYes {d j dj : Nat} {want : Bool} {v : Value} (hg : o.guard = some (j, want)) (hd : o.dst = some d) (hN : d < N) (hj : (ops[j]?).bind (·.dst) = some dj) (hM : dj < N) (hb : look E dj = some (.bool want))
    (h : Val P N z E M o v) (k : TL P N z ops Q rest ((d, v) :: E) M) : TL P N z ops Q (o :: rest) E M :=
  TL.opYes hg hj hM hb fun a w ha hw => by
    simp only [Oper.wp, h a w ha hw, Oper.upon, hd]
    exact k _ _ (ha.put hN v) hw

section
variable {dst : Option Tmp} {ty : TypeId} {pos : String} {af : Array Edge} {gu : Option (Nat × Bool)} {t yt : TypeId} {x y : Operand}

theorem does_alloc {op : Op} {T : TypeId} {u : Nat → Value} {cs : Array Value} (h : ∀ a w, Has N E a → Own z w M → (execOp a.eval ⟨dst, op, ty, pos, af, gu⟩).run P w = .ok (.value (u w.heap.size)) (w.alloc (.cells cs T))) :
    Does P N z E M ⟨dst, op, ty, pos, af, gu⟩ (fun v M' => ∃ b, v = u b ∧ M' = (b, .cells cs T (0, 0)) :: M) := fun a w K Q ha hw k => by
  simp only [Oper.wp, h a w ha hw, Oper.upon]
  exact k _ _ _ ⟨_, rfl, rfl⟩ (hw.alloc _)

theorem Does.box {T : TypeId} {v : Value} {cs : Array Value} (hx : ev E x = some v) (hc : v.cells = cs) :
    Does P N z E M ⟨dst, .box T x, ty, pos, af, gu⟩ (fun u M' => ∃ b, u = .pointer (some ⟨b, 0, none⟩) ∧ M' = (b, .cells cs T (0, 0)) :: M) :=
  does_alloc (u := fun b => .pointer (some ⟨b, 0, none⟩)) fun a w ha hw => by
    subst hc
    simp [execOp, ha.ev hx, Instr.box, newVar, newRow, Result.andThen, newObj, Sem.run]

theorem Does.alloc {T : TypeId} {v : Value} {cs : Array Value} (hz : zerQ P T = some v) (hc : v.cells = cs) :
    Does P N z E M ⟨dst, .alloc T, ty, pos, af, gu⟩ (fun u M' => ∃ b, u = .pointer (some ⟨b, 0, none⟩) ∧ M' = (b, .cells cs T (0, 0)) :: M) :=
  does_alloc (u := fun b => .pointer (some ⟨b, 0, none⟩)) fun a w ha hw => by
    subst hc
    simp [execOp, Instr.alloc, run_zero hz, newVar, newRow, Result.andThen, newObj, Sem.run]

/-- cells written one by one -/
def splice (cs : Array Value) (off : Nat) : List Value → Array Value
  | [] => cs
  | v :: r => splice (cs.setIfInBounds off v) (off + 1) r

theorem run_storeCells (b : Nat) (T : TypeId) : ∀ (vs : List Value) (off i : Nat) (cs : Array Value) (w : World), w.heap[b]? = some (.cells cs T (0, 0)) → off + i + vs.length ≤ cs.size → (∀ v ∈ vs, one v = true) →
    ∃ w', (storeCells ⟨b, off, none⟩ vs i).run P w = .ok () w' ∧ w'.os = w.os ∧ w'.tape = w.tape ∧ w'.output = w.output ∧ w'.heap[b]? = some (.cells (splice cs (off + i) vs) T (0, 0)) ∧ ∀ k, k ≠ b → w'.heap[k]? = w.heap[k]? := by
  intro vs
  induction vs with
  | nil => intro off i cs w hb _ _; exact ⟨w, rfl, rfl, rfl, rfl, hb, fun _ _ => rfl⟩
  | cons v r ih =>
    intro off i cs w hb hl h1
    have hc : w.cell? ⟨b, off + i, none⟩ = some (cs[off + i]'(by simp at hl; omega)) := by rw [cell_of hb, Array.getElem?_eq_getElem]
    have hf : w.frozen? ⟨b, off + i, none⟩ = false := frozen_of_row w b _ cs T hb
    have hset := heap_setCell_same w b (off + i) cs T v hb
    obtain ⟨w', hr, e1, e2, e3, hb', hk⟩ := ih off (i + 1) (cs.setIfInBounds (off + i) v) (w.setCell ⟨b, off + i, none⟩ v) hset (by simp at hl ⊢; omega) (fun u hu => h1 u (List.mem_cons_of_mem _ hu))
    refine ⟨w', ?_, e1, e2, e3, ?_, fun k hne => (hk k hne).trans (heap_setCell_other w _ k v (by simpa using hne))⟩
    · have hv := h1 v (List.mem_cons_self ..)
      have hst : (Go.store ((⟨b, off, none⟩ : Addr).add i) v).run P w = .ok () (w.setCell ⟨b, off + i, none⟩ v) := by
        rw [addr_add]
        cases v <;> simp [one] at hv <;> simp [Go.store, Sem.run, hc, hf]
      simp only [storeCells, Sem.run_bind, hst, Result.andThen]
      exact hr
    · simpa [splice, Nat.add_assoc] using hb'

theorem Does.store {v : Value} {b off n i : Nat} {cs cs' : Array Value} {T : TypeId} {M' : Hp} (hx : ev E x = some (.pointer (some ⟨b, off, none⟩))) (hy : ev E y = some v) (hi : M[i]? = some (b, .cells cs T (0, 0)))
    (hn : sizQ P t = some n) (hs : v.cells.size = n) (h1 : v.cells.toList.all one = true) (hb : off + n ≤ cs.size) (hr : splice cs off v.cells.toList = cs') (hM : M.set i (b, .cells cs' T (0, 0)) = M') :
    Does P N z E M ⟨dst, .store t x y, ty, pos, af, gu⟩ (fun u M'' => u = undef ∧ M'' = M') := fun a w K Q ha hw k => by
  subst hr; subst hM
  obtain ⟨w', hrun, e1, e2, e3, hb', hk⟩ := run_storeCells (P := P) b T v.cells.toList off 0 cs w (hw.at hi) (by simp [hs]; exact hb) (List.all_eq_true.1 h1)
  have : (execOp a.eval ⟨dst, .store t x y, ty, pos, af, gu⟩).run P w = .ok .skip w' := by
    simp [execOp, ha.ev hx, ha.ev hy, Instr.storeAt, Instr.sureAddr, storeVar, run_sizeOf hn, hs, hrun, Result.andThen]
  simp only [Oper.wp, this, Oper.upon]
  exact k undef _ w' ⟨rfl, rfl⟩ (hw.setAt hi e1 e2 e3 hb' hk)

/-- the parts of a literal -/
def evParts (E : Env) : List (Nat × Operand) → Option (List (Nat × Value))
  | [] => some []
  | (i, x) :: r => match ev E x, evParts E r with | some v, some vs => some ((i, v) :: vs) | _, _ => none

theorem evParts_eval {a : Act} (ha : Has N E a) : ∀ (l : List (Nat × Operand)) (r : List (Nat × Value)), evParts E l = some r → l.map (fun p => (p.1, a.eval p.2)) = r := by
  intro l
  induction l with
  | nil => intro r h; simp [evParts] at h; simp [h]
  | cons p l ih =>
    intro r h
    obtain ⟨i, x⟩ := p
    simp only [evParts] at h
    split at h
    · rename_i v vs hv hvs
      cases h
      simp [ha.ev hv, ih _ hvs]
    · cases h

def zfill (zero : Array Value) (n : Nat) : Array Value := (Array.range n).map (zero[· % zero.size]!)

/-- n times the cells of a zero -/
def zrep (zl : List Value) : Nat → List Value
  | 0 => []
  | n + 1 => zl ++ zrep zl n

theorem zrep_len (zl : List Value) (n : Nat) : (zrep zl n).length = n * zl.length := by
  induction n with
  | zero => simp [zrep]
  | succ n ih => simp [zrep, ih, Nat.add_mul]; omega

theorem zrep_get (zl : List Value) : ∀ (n i : Nat), i < n * zl.length → (zrep zl n)[i]? = zl[i % zl.length]? := by
  intro n
  induction n with
  | zero => intro i h; simp at h
  | succ n ih =>
    intro i h
    rw [Nat.add_mul] at h
    by_cases hi : i < zl.length
    · simp only [zrep]
      rw [List.getElem?_append_left hi, Nat.mod_eq_of_lt hi]
    · simp only [zrep]
      rw [List.getElem?_append_right (by omega), ih _ (by omega)]
      congr 1
      rw [Nat.mod_eq_sub_mod (a := i) (by omega)]

theorem zfill_eq (zero : Array Value) (n : Nat) : zfill zero (n * zero.size) = (zrep zero.toList n).toArray := by
  apply Array.ext'
  apply List.ext_getElem?
  intro i
  simp only [zfill, Array.toList_map, Array.toList_range, List.getElem?_map]
  by_cases hi : i < n * zero.size
  · rw [zrep_get _ _ _ (by simpa using hi), List.getElem?_range hi]
    have hpos : 0 < zero.size := by
      rcases Nat.eq_zero_or_pos zero.size with h | h
      · simp [h] at hi
      · exact h
    have hm : i % zero.size < zero.size := Nat.mod_lt _ hpos
    simp only [Option.map_some, Array.length_toList]
    rw [getElem!_pos zero _ hm, List.getElem?_eq_getElem (by simpa using hm)]
    simp
  · rw [List.getElem?_eq_none (by simp; omega), List.getElem?_eq_none (by rw [zrep_len]; simp; omega)]
    rfl

def setRange (cells : List Value) (off : Nat) : List Value → List Value
  | [] => cells
  | c :: r => setRange (cells.set off c) (off + 1) r

/-- 'fill' by lists -/
def fillL (place : Nat → Option (Nat × Nat)) (cells : List Value) : List (Nat × Value) → Option (List Value)
  | [] => some cells
  | (i, v) :: rest =>
    match place i with
    | none => none
    | some (off, size) => bif Nat.beq v.cells.toList.length size && Nat.ble (off + v.cells.toList.length) cells.length then fillL place (setRange cells off v.cells.toList) rest else none

theorem setRange_len (cells : List Value) : ∀ (vs : List Value) (off : Nat) , (setRange cells off vs).length = cells.length := by
  intro vs
  induction vs generalizing cells with
  | nil => intro off; rfl
  | cons c r ih => intro off; simp [setRange, ih]

theorem foldl_setRange : ∀ (vs : List Value) (k off : Nat) (cells : Array Value), (vs.zipIdx k).foldl (fun (cs : Array Value) (x : Value × Nat) => cs.setIfInBounds (off + x.2) x.1) cells = (setRange cells.toList (off + k) vs).toArray := by
  intro vs
  induction vs with
  | nil => intro k off cells; simp [setRange]
  | cons c r ih =>
    intro k off cells
    simp only [List.zipIdx_cons, List.foldl_cons, setRange]
    rw [ih]
    simp [Nat.add_assoc]

theorem fill_eq (place : Nat → Option (Nat × Nat)) : ∀ (parts : List (Nat × Value)) (cells r : List Value), fillL place cells parts = some r → Instr.fill place cells.toArray parts = some r.toArray := by
  intro parts
  induction parts with
  | nil => intro cells r h; simp [fillL] at h; subst h; rfl
  | cons p rest ih =>
    intro cells r h
    obtain ⟨i, v⟩ := p
    simp only [fillL] at h
    simp only [Instr.fill]
    split at h
    · cases h
    · rename_i off size hp
      simp only [hp]
      have hc : (Nat.beq v.cells.toList.length size && Nat.ble (off + v.cells.toList.length) cells.length) = true := by
        cases hb : (Nat.beq v.cells.toList.length size && Nat.ble (off + v.cells.toList.length) cells.length) with
        | true => rfl
        | false => rw [hb] at h; cases h
      rw [hc] at h
      obtain ⟨hc1, hc2⟩ := (Bool.and_eq_true _ _ ▸ hc : _ ∧ _)
      replace hc1 := Nat.eq_of_beq_eq_true hc1
      replace hc2 := Nat.le_of_ble_eq_true hc2
      simp only [Array.length_toList] at hc1 hc2
      have hcond : ¬ ((decide (v.cells.size ≠ size) || decide (off + v.cells.size > cells.toArray.size)) = true) := by simp; omega
      rw [if_neg hcond]
      have := foldl_setRange v.cells.toList 0 off cells.toArray
      rw [← Array.foldl_toList, Array.toList_zipIdx]
      rw [this]
      exact ih _ _ (by simpa using h)

theorem Does.buildSlice {e len sz : Nat} {zv : Value} {parts : List (Nat × Operand)} {pv : List (Nat × Value)} {cs : List Value} (ht : slQ P t = some e) (hsz : sizQ P e = some sz) (hz : zerQ P e = some zv) (hl : len * sz ≤ 16777216) (h0 : len * sz ≠ 0)
    (hzs : zv.cells.size = sz) (hp : evParts E parts = some pv) (hf : fillL (fun i => some (i * sz, sz)) (zrep zv.cells.toList len) pv = some cs) :
    Does P N z E M ⟨dst, .buildSlice t len parts.toArray, ty, pos, af, gu⟩ (fun u M' => ∃ b, u = .slice (some ⟨b, 0, none⟩) len len ∧ M' = (b, .cells cs.toArray e (0, 0)) :: M) :=
  does_alloc (u := fun b => .slice (some ⟨b, 0, none⟩) len len) fun a w ha hw => by
    have hf := fill_eq _ _ _ _ hf
    rw [← zfill_eq, hzs] at hf
    have hpe := evParts_eval ha _ _ hp
    have h1 : ¬ (len * sz > 2 ^ 24) := by omega
    simp only [execOp, Instr.buildSlice, Sem.run_bind, run_underlying (slQ_spec ht), run_sizeOf hsz, Result.andThen, h1, if_false, h0, run_zero hz, Sem.run_pure, List.map_toArray, hpe]
    simp only [zfill] at hf
    simp only [hf, Sem.run_bind, newRow, newObj, Sem.run, Result.andThen]
    simp

theorem Val.build {parts : List (Nat × Operand)} {pv : List (Nat × Value)} {fs : Array Field} {places : Array (Nat × Nat)} {zv : Value} {cs : Array Value} (ht : P.underlying t = some (.struct fs))
    (hpl : ∀ w, (fs.mapM (fun f => do pure (f.offset, ← sizeOf f.type)) : Sem (Array (Nat × Nat))).run P w = .ok places w) (hz : zerQ P t = some zv)
    (hp : evParts E parts = some pv) (hf : Instr.fill (places[·]?) zv.cells pv = some cs) :
    Val P N z E M ⟨dst, .build t parts.toArray, ty, pos, af, gu⟩ (.agg cs) := fun a w ha hw => by
  have hpe := evParts_eval ha _ _ hp
  simp only [execOp, Instr.build, Sem.run_bind, run_underlying ht, hpl, Result.andThen, run_zero hz, Sem.run_pure, List.map_toArray, hpe, hf]

theorem Val.buildA {e n sz : Nat} {parts : List (Nat × Operand)} {pv : List (Nat × Value)} {zv : Value} {cs : List Value} (ht : arQ P t = some (n, e)) (hsz : sizQ P e = some sz) (hz : zerQ P t = some zv)
    (hp : evParts E parts = some pv) (hf : fillL (fun i => some (i * sz, sz)) zv.cells.toList pv = some cs) :
    Val P N z E M ⟨dst, .build t parts.toArray, ty, pos, af, gu⟩ (.agg cs.toArray) := fun a w ha hw => by
  have hf := fill_eq _ _ _ _ hf
  rw [Array.toArray_toList] at hf
  have hpe := evParts_eval ha _ _ hp
  simp only [execOp, Instr.build, Sem.run_bind, run_underlying (arQ_spec ht), run_sizeOf hsz, Result.andThen, run_zero hz, Sem.run_pure, List.map_toArray, hpe, hf]

/-! ### calls -/

def evs (E : Env) : List Operand → Option (List Value)
  | [] => some []
  | x :: r => match ev E x, evs E r with | some v, some vs => some (v :: vs) | _, _ => none

theorem evs_eval {a : Act} (ha : Has N E a) : ∀ (l : List Operand) (r : List Value), evs E l = some r → l.map a.eval = r := by
  intro l
  induction l with
  | nil => intro r h; simp [evs] at h; simp [h]
  | cons p l ih =>
    intro r h
    simp only [evs] at h
    split at h
    · rename_i v vs hv hvs
      cases h
      simp [ha.ev hv, ih _ hvs]
    · cases h

/-- A function with a Go body. -/
def goQ (P : Program) (f : FuncId) : Bool := match P.funcs[f]? with | some fn => fn.name != "runtime.NumGoroutine" && fn.body.isSome | none => false

theorem run_callFunc {f : FuncId} (h : goQ P f = true) (args : Array Value) (w : World) : (callFunc f args).run P w = .ok (.enter f args) w := by
  unfold goQ at h
  split at h
  · rename_i fn hf
    simp at h
    obtain ⟨h1, h2⟩ := h
    have h3 : fn.body.isNone = false := by cases hb : fn.body <;> simp_all
    have h4 : fn.body ≠ none := by intro h; simp [h] at h2
    simp [callFunc, program, Sem.run, hf, h1, h4]
  · cases h

theorem Does.call {f : FuncId} {args : List Operand} {vs : List Value} {at_ : Array TypeId} {c : Operand} {first cap : Array Value} (hc : ev E c = some (.func (.func f) first cap)) (hf : goQ P f = true) (ha0 : evs E args = some vs)
    (h : FnC P f (first ++ vs.toArray ++ cap) M R) : Does P N z E M ⟨dst, .call ⟨.value c, args.toArray, at_⟩, ty, pos, af, gu⟩ R := fun a w K Q ha hw k => by
  have he := evs_eval ha _ _ ha0
  have hrun : (execOp a.eval ⟨dst, .call ⟨.value c, args.toArray, at_⟩, ty, pos, af, gu⟩).run P w = .ok (.enter f (first ++ vs.toArray ++ cap)) w := by
    simp only [execOp, resolve, ha.ev hc, Deferred.ofValue, Sem.run_bind, Sem.run_pure, Result.andThen, invoke, List.map_toArray, he]
    exact run_callFunc hf _ w
  simp only [Oper.wp, hrun, Oper.upon]
  refine (h z w hw).mono ?_
  rintro e w' ⟨v, M', rfl, hR, ho⟩
  exact k v M' w' hR ho
end
end
end Go.X
