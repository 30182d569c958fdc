/- The engine: what a function hands back, memory among it; struct literals; more forms of the rules. -/
import Derived.Test.YtphoapajlcaoeaaE5
set_option linter.unusedVariables false
set_option linter.unusedSimpArgs false
namespace Go.X
open Go Go.RowKit

section
variable {P : Program} {N : Nat} {z : World} {Q : Exit → Act → World → Prop} {E : Env} {M : Hp} {ops : Array Oper} {rest : List Oper}

def resSem (tmps : Array Value) : ResultVar → Sem Value
  | .tmp t => pure (tmps.getD t undef)
  | .cell a t => do loadVar t (← asAddr (tmps.getD a undef))
theorem results_eq (fn : Func) (tmps : Array Value) : results fn tmps = (do let vs ← fn.results.mapM (resSem tmps); pure (if h : vs.size = 1 then vs[0] else .tuple vs)) := rfl

/-- what one result variable reads -/
def RV (P : Program) (N : Nat) (E : Env) (M : Hp) (r : ResultVar) (v : Value) : Prop :=
  ∀ z a w, Has N E a → Own z w M → (resSem a.tmps r).run P w = .ok v w

theorem RV.tmp {t : Tmp} {v : Value} (h : look E t = some v) : RV P N E M (.tmp t) v := fun z a w ha hw => by
  simp only [resSem, ha.get t v h, Sem.run_pure]

theorem RV.agg {x : Tmp} {t : TypeId} {b off n i : Nat} {cs : Array Value} {vs : List Value} {T : TypeId} {fz : Nat × Nat} (hx : look E x = some (.pointer (some ⟨b, off, none⟩))) (ht : aggQ P t = some true) (hn : sizQ P t = some n)
    (hi : M[i]? = some (b, .cells cs T fz)) (hv : seg cs.toList off n = vs) (hs : vs.length = n) : RV P N E M (.cell x t) (.agg vs.toArray) := fun z a w ha hw => by
  have hv := seg_arr hv
  have hl := run_loadCells_list (P := P) (w := w) ⟨b, off, none⟩ vs (fun j v hj => by
    rw [addr_add, cell_of (hw.at hi)]
    have : vs.toArray[j]? = some v := by simpa using hj
    rw [← hv, Array.getElem?_extract] at this
    split at this
    · exact this
    · cases this)
  simp only [hs] at hl
  simp only [resSem, ha.get x _ hx, asAddr, loadVar, Sem.run_bind, Sem.run_pure, run_isAgg ht, run_sizeOf hn, Result.andThen, if_true, hl]

theorem RV.val {x : Tmp} {t : TypeId} {b off i : Nat} {cs : Array Value} {T : TypeId} {fz : Nat × Nat} {v : Value} (hx : look E x = some (.pointer (some ⟨b, off, none⟩))) (ht : aggQ P t = some false)
    (hi : M[i]? = some (b, .cells cs T fz)) (hv : nth cs.toList off = some v) : RV P N E M (.cell x t) v := fun z a w ha hw => by
  rw [nth_eq, Array.getElem?_toList] at hv
  have hc := (cell_of (off := off) (hw.at hi)).trans hv
  simp [resSem, ha.get' x _ hx, asAddr, loadVar, run_isAgg ht, Result.andThen, hc]

theorem results1 {fn : Func} {r1 : ResultVar} {v1 : Value} (hf : fn.results = #[r1]) (h1 : RV P N E M r1 v1) {a : Act} {w : World} (ha : Has N E a) (hw : Own z w M) : (results fn a.tmps).run P w = .ok v1 w := by
  have e1 := h1 z a w ha hw
  rw [results_eq, hf]
  simp [e1, Result.andThen]

theorem results2 {fn : Func} {r1 r2 : ResultVar} {v1 v2 : Value} (hf : fn.results = #[r1, r2]) (h1 : RV P N E M r1 v1) (h2 : RV P N E M r2 v2) {a : Act} {w : World} (ha : Has N E a) (hw : Own z w M) : (results fn a.tmps).run P w = .ok (.tuple #[v1, v2]) w := by
  have e1 := h1 z a w ha hw
  have e2 := h2 z a w ha hw
  rw [results_eq, hf]
  simp [e1, e2, Result.andThen]

theorem results3 {fn : Func} {r1 r2 r3 : ResultVar} {v1 v2 v3 : Value} (hf : fn.results = #[r1, r2, r3]) (h1 : RV P N E M r1 v1) (h2 : RV P N E M r2 v2) (h3 : RV P N E M r3 v3) {a : Act} {w : World} (ha : Has N E a) (hw : Own z w M) : (results fn a.tmps).run P w = .ok (.tuple #[v1, v2, v3]) w := by
  have e1 := h1 z a w ha hw
  have e2 := h2 z a w ha hw
  have e3 := h3 z a w ha hw
  rw [results_eq, hf]
  simp [e1, e2, e3, Result.andThen]

theorem results4 {fn : Func} {r1 r2 r3 r4 : ResultVar} {v1 v2 v3 v4 : Value} (hf : fn.results = #[r1, r2, r3, r4]) (h1 : RV P N E M r1 v1) (h2 : RV P N E M r2 v2) (h3 : RV P N E M r3 v3) (h4 : RV P N E M r4 v4) {a : Act} {w : World} (ha : Has N E a) (hw : Own z w M) : (results fn a.tmps).run P w = .ok (.tuple #[v1, v2, v3, v4]) w := by
  have e1 := h1 z a w ha hw
  have e2 := h2 z a w ha hw
  have e3 := h3 z a w ha hw
  have e4 := h4 z a w ha hw
  rw [results_eq, hf]
  simp [e1, e2, e3, e4, Result.andThen]

/-- a return, or the body's end -/
theorem TC.ret1 {fn : Func} {R : Value → Hp → Prop} {r1 : ResultVar} {v1 : Value} {M' : Hp} (hQ : ∀ a w, FnQ P fn z R .ret a w → Q .ret a w) (hf : fn.results = #[r1]) (h1 : RV P N E M r1 v1) (hM : ∀ w, Own z w M → Own z w M') (hR : R v1 M') : TC P N z Q .ret E M :=
  fun a w ha hw => wp_ret (hQ a w ⟨ha.defers, _, results1 hf h1 ha hw, _, M', rfl, hR, hM w hw⟩)
theorem TC.ret2 {fn : Func} {R : Value → Hp → Prop} {r1 r2 : ResultVar} {v1 v2 : Value} {M' : Hp} (hQ : ∀ a w, FnQ P fn z R .ret a w → Q .ret a w) (hf : fn.results = #[r1, r2]) (h1 : RV P N E M r1 v1) (h2 : RV P N E M r2 v2) (hM : ∀ w, Own z w M → Own z w M') (hR : R (.tuple #[v1, v2]) M') : TC P N z Q .ret E M :=
  fun a w ha hw => wp_ret (hQ a w ⟨ha.defers, _, results2 hf h1 h2 ha hw, _, M', rfl, hR, hM w hw⟩)
theorem TC.ret3 {fn : Func} {R : Value → Hp → Prop} {r1 r2 r3 : ResultVar} {v1 v2 v3 : Value} {M' : Hp} (hQ : ∀ a w, FnQ P fn z R .ret a w → Q .ret a w) (hf : fn.results = #[r1, r2, r3]) (h1 : RV P N E M r1 v1) (h2 : RV P N E M r2 v2) (h3 : RV P N E M r3 v3) (hM : ∀ w, Own z w M → Own z w M') (hR : R (.tuple #[v1, v2, v3]) M') : TC P N z Q .ret E M :=
  fun a w ha hw => wp_ret (hQ a w ⟨ha.defers, _, results3 hf h1 h2 h3 ha hw, _, M', rfl, hR, hM w hw⟩)
theorem TC.ret4 {fn : Func} {R : Value → Hp → Prop} {r1 r2 r3 r4 : ResultVar} {v1 v2 v3 v4 : Value} {M' : Hp} (hQ : ∀ a w, FnQ P fn z R .ret a w → Q .ret a w) (hf : fn.results = #[r1, r2, r3, r4]) (h1 : RV P N E M r1 v1) (h2 : RV P N E M r2 v2) (h3 : RV P N E M r3 v3) (h4 : RV P N E M r4 v4) (hM : ∀ w, Own z w M → Own z w M') (hR : R (.tuple #[v1, v2, v3, v4]) M') : TC P N z Q .ret E M :=
  fun a w ha hw => wp_ret (hQ a w ⟨ha.defers, _, results4 hf h1 h2 h3 h4 ha hw, _, M', rfl, hR, hM w hw⟩)
theorem AtX.end0 {fn : Func} {R : Value → Hp → Prop} {M' : Hp} (hf : fn.results = #[]) (hM : ∀ w, Own z w M → Own z w M') (hR : R (.tuple #[]) M') : AtX N z (FnQ P fn z R) .normal E M :=
  fun a w ha hw => ⟨ha.defers, .tuple #[], by simp [results, hf], _, M', rfl, hR, hM w hw⟩
theorem TC.ret0 {fn : Func} {R : Value → Hp → Prop} {M' : Hp} (hQ : ∀ a w, FnQ P fn z R .ret a w → Q .ret a w) (hf : fn.results = #[]) (hM : ∀ w, Own z w M → Own z w M') (hR : R (.tuple #[]) M') : TC P N z Q .ret E M :=
  fun a w ha hw => wp_ret (hQ a w ⟨ha.defers, .tuple #[], by simp [results, hf], _, M', rfl, hR, hM w hw⟩)

/-! struct literals -/
def plQ (P : Program) (t : TypeId) : Option (List (Nat × Nat)) :=
  match P.underlying t with
  | some (.struct fs) => fs.toList.mapM fun f => (sizQ P f.type).map fun s => (f.offset, s)
  | _ => none

theorem run_places (l : List Field) : ∀ (r : List (Nat × Nat)), l.mapM (fun f => (sizQ P f.type).map fun s => (f.offset, s)) = some r → ∀ w, (l.mapM (fun f => do pure (f.offset, ← sizeOf f.type)) : Sem (List (Nat × Nat))).run P w = .ok r w := by
  induction l with
  | nil => intro r h w; simp at h; subst h; rfl
  | cons f l ih =>
    intro r h w
    simp only [List.mapM_cons, Option.bind_eq_bind, Option.bind_eq_some_iff, Option.map_eq_some_iff] at h
    obtain ⟨p, ⟨s, hs, rfl⟩, q, hq, hr⟩ := h
    cases hr
    simp [List.mapM_cons, run_sizeOf hs, Result.andThen, ih _ hq]
    have := ih _ hq w
    simp at this
    simp [this, Result.andThen]

section
variable {dst : Option Tmp} {ty : TypeId} {pos : String} {af : Array Edge} {gu : Option (Nat × Bool)} {t yt : TypeId} {x y : Operand}
theorem Val.buildS {parts : List (Nat × Operand)} {pv : List (Nat × Value)} {pl : List (Nat × Nat)} {zv : Value} {cs : List Value} (hpl : plQ P t = some pl) (hz : zerQ P t = some zv)
    (hp : evParts E parts = some pv) (hf : fillL (pl[·]?) zv.cells.toList pv = some cs) :
    Val P N z E M ⟨dst, .build t parts.toArray, ty, pos, af, gu⟩ (.agg cs.toArray) := by
  have hf := fill_eq _ _ _ _ hf
  rw [Array.toArray_toList] at hf
  unfold plQ at hpl
  split at hpl
  · rename_i fs hfs
    refine Val.build (places := pl.toArray) hfs (fun w => ?_) hz hp (by simpa using hf)
    have := run_places fs.toList pl hpl w
    rw [← Array.toArray_toList (xs := fs)]
    simp only [List.mapM_toArray]
    simp only [bind_pure_comp] at this ⊢
    simp [this, Result.andThen]
  · cases hpl

theorem Does.callF {f : FuncId} {args : List Operand} {vs : List Value} {at_ : Array TypeId} {R : Value → Hp → Prop} (hf : goQ P f = true) (ha0 : evs E args = some vs)
    (h : FnC P f vs.toArray M R) : Does P N z E M ⟨dst, .call ⟨.value (.func f), args.toArray, at_⟩, ty, pos, af, gu⟩ R :=
  Does.call (first := #[]) (cap := #[]) (by rfl) hf ha0 (by simpa using h)
end

theorem TC.condN {c : Operand} {x y : Code} {p : Prop} {dp : Decidable p} (hc : ev E c = some (.bool (!decide p))) (h1 : ¬ p → TC P N z Q x E M) (h2 : p → TC P N z Q y E M) : TC P N z Q (.cond c x y) E M :=
  TC.cond hc (fun e => h1 (by simpa using e)) (fun e => h2 (by simpa using e))

theorem TC.condB {c : Operand} {x y : Code} {t : Bool} (hc : ev E c = some (.bool (!t))) (h1 : t = false → TC P N z Q x E M) (h2 : t = true → TC P N z Q y E M) : TC P N z Q (.cond c x y) E M :=
  TC.cond hc (fun e => h1 (by simpa using e)) (fun e => h2 (by simpa using e))
end
end Go.X
namespace Go.X
open Go
section
variable {P : Program} {N : Nat} {z : World} {Q : Exit → Act → World → Prop} {E : Env} {M : Hp} {K : Act → World → Prop}
theorem AtX.blk {id : Nat} (h : AtX N z Q .normal E M) : AtX N z (Exit.inBlock id Q) .normal E M := fun a w ha hw => h a w ha hw
theorem AtX.seqX {id : Nat} (h : AtX N z Q (.exit id) E M) : AtX N z (Exit.then K Q) (.exit id) E M := fun a w ha hw => h a w ha hw
theorem AtX.hit {id : Nat} (h : AtX N z Q .normal E M) : AtX N z (Exit.inBlock id Q) (.exit id) E M := fun a w ha hw => by
  simp only [Exit.inBlock, if_true]; exact h a w ha hw
theorem AtX.miss {id id' : Nat} (hne : (id' == id) = false) (h : AtX N z Q (.exit id') E M) : AtX N z (Exit.inBlock id Q) (.exit id') E M := fun a w ha hw => by
  have : ¬ id' = id := by simpa using hne
  simp only [Exit.inBlock, this, if_false]; exact h a w ha hw
theorem AtX.env {e : Exit} {E' : Env} (hE : Sub E' E) (h : AtX N z Q e E' M) : AtX N z Q e E M := fun a w ha hw => h a w (ha.sub hE) hw
theorem AtX.heap {e : Exit} {M' : Hp} (hM : ∀ w, Own z w M → Own z w M') (h : AtX N z Q e E M') : AtX N z Q e E M := fun a w ha hw => h a w ha (hM w hw)
end
end Go.X
