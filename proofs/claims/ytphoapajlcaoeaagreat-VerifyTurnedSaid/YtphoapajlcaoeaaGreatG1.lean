/- Texts put together: E0, E1, E2, E3, E4, E5, E6, E7, ES18, ES18b, ES1, E8, E9, E9c, E9d, E10, E11, E12, E13, E14, E15, E16, E17, E18, E19, E20, ES2, ES3, ES4, ES5, ES6, ES8. -/
import Derived.WalkKit
import Derived.KernelRfl
import Derived.OrdersHeld
import Derived.Deep.RegionHeld3
import Derived.ProofKit
import Derived.Laws.LoneSync
import Derived.Laws.StructEq
/- The engine: a Hoare-like judgement over frames given as lists of slots and heaps given as lists of blocks. -/
set_option linter.unusedVariables false
set_option linter.unusedSimpArgs false
namespace Go.X
open Go Go.RowKit

abbrev Env := List (Nat × Value)
abbrev Hp := List (Nat × Obj)

/-- What a slot holds, by the list. -/
def look : Env → Nat → Option Value
  | [], _ => none
  | (k, v) :: r, n => bif Nat.beq k n then some v else look r n

/-- What an operand holds, by the list. -/
def ev (E : Env) : Operand → Option Value
  | .tmp t => look E t
  | .const v => some v
  | .global g => some (.pointer (some ⟨g, 0, none⟩))
  | .func f => some (.func (.func f) #[] #[])

structure Has (N : Nat) (E : Env) (a : Act) : Prop where
  size : a.tmps.size = N
  defers : a.defers = []
  get : ∀ t v, look E t = some v → a.tmps.getD t undef = v

theorem Has.ev {N : Nat} {E : Env} {a : Act} (h : Has N E a) {x : Operand} {v : Value} (hx : ev E x = some v) : a.eval x = v := by
  cases x with
  | tmp t => exact h.get t v hx
  | const u => simpa [X.ev, Act.eval] using hx
  | global g => simpa [X.ev, Act.eval] using hx
  | func f => simpa [X.ev, Act.eval] using hx

theorem look_cons_same (d : Nat) (v : Value) (E : Env) : look ((d, v) :: E) d = some v := by simp [look]
theorem look_cons_ne (d t : Nat) (v : Value) (E : Env) (h : d ≠ t) : look ((d, v) :: E) t = look E t := by
  have : Nat.beq d t = false := by
    cases hb : Nat.beq d t with
    | false => rfl
    | true => exact absurd (Nat.eq_of_beq_eq_true hb) h
  simp [look, this]

theorem Has.put {N : Nat} {E : Env} {a : Act} (h : Has N E a) {d : Nat} (hd : d < N) (v : Value) : Has N ((d, v) :: E) (a.put (some d) v) := by
  refine ⟨by simp [Act.put, h.size], h.defers, fun t u hu => ?_⟩
  have hs := h.size
  by_cases e : d = t
  · subst e
    rw [look_cons_same] at hu
    cases hu
    simp [Act.put, Array.getD_eq_getD_getElem?, hs, hd]
  · rw [look_cons_ne _ _ _ _ e] at hu
    have := h.get t u hu
    simp only [Act.put, Array.getD_eq_getD_getElem?, Array.getElem?_setIfInBounds, e, if_false] at this ⊢
    exact this

theorem Has.putNone {N : Nat} {E : Env} {a : Act} (h : Has N E a) (v : Value) : Has N E (a.put none v) := h

/-- E' says no more than E. -/
def Sub (E' E : Env) : Prop := ∀ t v, look E' t = some v → look E t = some v
theorem Sub.nil (E : Env) : Sub [] E := fun _ _ h => by simp [look] at h
theorem Sub.refl (E : Env) : Sub E E := fun _ _ h => h
theorem Sub.cons {E' E : Env} {d : Nat} {v : Value} (h : look E d = some v) (hs : Sub E' E) : Sub ((d, v) :: E') E := fun t u hu => by
  by_cases e : d = t
  · subst e; rw [look_cons_same] at hu; cases hu; exact h
  · rw [look_cons_ne _ _ _ _ e] at hu; exact hs t u hu
theorem Has.sub {N : Nat} {E E' : Env} {a : Act} (h : Has N E a) (hs : Sub E' E) : Has N E' a := ⟨h.size, h.defers, fun t v hv => h.get t v (hs t v hv)⟩

/-- The frame at entry: arguments, then slots that hold nothing. -/
def argEnv : Nat → List Value → Env
  | _, [] => []
  | k, v :: r => (k, v) :: argEnv (k + 1) r

theorem look_argEnv (l : List Value) : ∀ k t v, look (argEnv k l) t = some v → ∃ j, t = k + j ∧ l[j]? = some v := by
  induction l with
  | nil => intro k t v h; simp [argEnv, look] at h
  | cons u r ih =>
    intro k t v h
    by_cases e : k = t
    · subst e; rw [argEnv, look_cons_same] at h; cases h; exact ⟨0, by simp, by simp⟩
    · rw [argEnv, look_cons_ne _ _ _ _ e] at h
      obtain ⟨j, rfl, hj⟩ := ih _ _ _ h
      exact ⟨j + 1, by omega, by simpa using hj⟩

theorem Has.entry (args : Array Value) (N : Nat) (h : args.size ≤ N) :
    Has N (argEnv 0 args.toList) { tmps := args ++ Array.replicate (N - args.size) undef, defers := [] } := by
  refine ⟨by simp; omega, rfl, fun t v hv => ?_⟩
  obtain ⟨j, rfl, hj⟩ := look_argEnv _ _ _ _ hv
  have hlt : j < args.size := by
    rcases Nat.lt_or_ge j args.size with h | h
    · exact h
    · simp [h] at hj
  simp [Array.getD_eq_getD_getElem?, Array.getElem?_append, hlt] at hj ⊢
  simpa using hj

/-! ### The heap -/

/-- The world w holds (at least) the blocks of M, which are apart; its streams are z's. -/
structure Own (z w : World) (M : Hp) : Prop where
  os : w.os = z.os
  tape : w.tape = z.tape
  output : w.output = z.output
  nodup : (M.map (·.1)).Nodup
  mem : ∀ b o, (b, o) ∈ M → w.heap[b]? = some o

theorem Own.lt {z w : World} {M : Hp} (h : Own z w M) {b : Nat} {o : Obj} (hm : (b, o) ∈ M) : b < w.heap.size :=
  (Array.getElem?_eq_some_iff.1 (h.mem b o hm)).1

theorem Own.at {z w : World} {M : Hp} (h : Own z w M) {i b : Nat} {o : Obj} (hi : M[i]? = some (b, o)) : w.heap[b]? = some o :=
  h.mem b o (List.mem_of_getElem? hi)

theorem Own.drew {z w : World} {M : Hp} (h : Own z w M) : Own z w.drew M := ⟨h.os, h.tape, h.output, h.nodup, h.mem⟩
theorem Own.drawn {z w : World} {M : Hp} (h : Own z w M) (n : Nat) : Own z { w with drawn := n } M := ⟨h.os, h.tape, h.output, h.nodup, h.mem⟩

theorem Own.alloc {z w : World} {M : Hp} (h : Own z w M) (o : Obj) : Own z (w.alloc o) ((w.heap.size, o) :: M) := by
  refine ⟨h.os, h.tape, h.output, ?_, fun b u hm => ?_⟩
  · simp only [List.map_cons, List.nodup_cons]
    refine ⟨fun hm => ?_, h.nodup⟩
    obtain ⟨⟨b, u⟩, hb, he⟩ := List.mem_map.1 hm
    have := h.lt hb
    simp at he
    omega
  · rcases List.mem_cons.1 hm with he | hm
    · cases he
      exact heap_alloc_new w o
    · exact (Below.heap_alloc w o _ (h.lt hm)).trans (h.mem b u hm)

/-- Another list of the same blocks, or of some of them. -/
theorem Own.perm {z w : World} {M M' : Hp} (h : Own z w M) (hp : M.Perm M') : Own z w M' :=
  ⟨h.os, h.tape, h.output, (hp.map (·.1)).nodup_iff.1 h.nodup, fun b o hm => h.mem b o (hp.mem_iff.2 hm)⟩

theorem Own.sublist {z w : World} {M M' : Hp} (h : Own z w M) (hs : M'.Sublist M) : Own z w M' :=
  ⟨h.os, h.tape, h.output, h.nodup.sublist (hs.map (·.1)), fun b o hm => h.mem b o (hs.subset hm)⟩

theorem Own.drop {z w : World} {b : Nat} {o : Obj} {M : Hp} (h : Own z w ((b, o) :: M)) : Own z w M := h.sublist (List.sublist_cons_self _ _)

theorem perm_front {α : Type} {M : List α} {i : Nat} {x : α} (h : M[i]? = some x) : M.Perm (x :: M.eraseIdx i) := by
  induction M generalizing i with
  | nil => simp at h
  | cons y r ih =>
    cases i with
    | zero => simp at h; subst h; simp
    | succ i =>
      simp at h
      exact ((ih h).cons y).trans (List.Perm.swap x y _)

/-- Block number i to the front. -/
theorem Own.front {z w : World} {M : Hp} (h : Own z w M) (i : Nat) {x : Nat × Obj} (hi : M[i]? = some x) : Own z w (x :: M.eraseIdx i) := h.perm (perm_front hi)

/-- The front block at place i. -/
theorem perm_back {α : Type} (x : α) (L R : List α) : (x :: (L ++ R)).Perm (L ++ x :: R) := (List.perm_middle).symm

/-- A block is written whole. -/
theorem Own.setFront {z w w' : World} {M : Hp} {b : Nat} {o o' : Obj} (h : Own z w ((b, o) :: M)) (hos : w'.os = w.os) (ht : w'.tape = w.tape) (hout : w'.output = w.output)
    (hb : w'.heap[b]? = some o') (hk : ∀ k, k ≠ b → w'.heap[k]? = w.heap[k]?) : Own z w' ((b, o') :: M) := by
  refine ⟨hos.trans h.os, ht.trans h.tape, hout.trans h.output, h.nodup, fun k u hm0 => ?_⟩
  rcases List.mem_cons.1 hm0 with he | hm
  · cases he; exact hb
  · have hne : k ≠ b := by
      have hn := h.nodup
      simp only [List.map_cons, List.nodup_cons] at hn
      intro e
      subst e
      exact hn.1 (List.mem_map.2 ⟨_, hm, rfl⟩)
    rw [hk k hne]
    exact h.mem k u (List.mem_cons_of_mem _ hm)

theorem set_perm_front {α : Type} {M : List α} {i : Nat} {x y : α} (h : M[i]? = some x) : (y :: M.eraseIdx i).Perm (M.set i y) := by
  induction M generalizing i with
  | nil => simp at h
  | cons u r ih =>
    cases i with
    | zero => simp
    | succ i =>
      simp at h
      simp only [List.eraseIdx_cons_succ, List.set_cons_succ]
      exact (List.Perm.swap u y _).trans ((ih h).cons u)

theorem Own.setAt {z w w' : World} {M : Hp} {i b : Nat} {o o' : Obj} (h : Own z w M) (hi : M[i]? = some (b, o)) (hos : w'.os = w.os) (ht : w'.tape = w.tape) (hout : w'.output = w.output)
    (hb : w'.heap[b]? = some o') (hk : ∀ k, k ≠ b → w'.heap[k]? = w.heap[k]?) : Own z w' (M.set i (b, o')) :=
  ((h.front i hi).setFront hos ht hout hb hk).perm (set_perm_front hi)

/-! ### The judgements -/

section
variable (P : Program) (N : Nat) (z : World)

def TC (Q : Exit → Act → World → Prop) (c : Code) (E : Env) (M : Hp) : Prop := ∀ a w, Has N E a → Own z w M → c.wp P Q a w

def TL (ops : Array Oper) (Q : Exit → Act → World → Prop) (l : List Oper) (E : Env) (M : Hp) : Prop := ∀ a w, Has N E a → Own z w M → wpList P ops Q l a w

/-- What holds at an exit. -/
def AtX (Q : Exit → Act → World → Prop) (e : Exit) (E : Env) (M : Hp) : Prop := ∀ a w, Has N E a → Own z w M → Q e a w
end

/-- The contract of a function: with these arguments, in any world that holds M, it returns v, and the world then holds M', R of both. -/
def FnC (P : Program) (f : FuncId) (args : Array Value) (M : Hp) (R : Value → Hp → Prop) : Prop :=
  ∀ z w, Own z w M → Calls P f args w fun e w' => ∃ v M', e = .returned v ∧ R v M' ∧ Own z w' M'

theorem FnC.mono {P : Program} {f : FuncId} {args : Array Value} {M : Hp} {R R' : Value → Hp → Prop} (h : FnC P f args M R) (hr : ∀ v M', R v M' → R' v M') : FnC P f args M R' :=
  fun z w hw => (h z w hw).mono fun _ _ ⟨v, M', he, hR, ho⟩ => ⟨v, M', he, hr _ _ hR, ho⟩

theorem FnC.pre {P : Program} {f : FuncId} {args : Array Value} {M M' : Hp} {R : Value → Hp → Prop} (h : FnC P f args M' R) (hp : ∀ z w, Own z w M → Own z w M') : FnC P f args M R :=
  fun z w hw => h z w (hp z w hw)

/-- What a function's frame hands back. -/
def resOf (fn : Func) (E : Env) : Option Value :=
  match fn.results.toList with
  | [] => some (.tuple #[])
  | [.tmp t] => look E t
  | [.tmp t, .tmp u] => (look E t).bind fun x => (look E u).map fun y => .tuple #[x, y]
  | [.tmp t, .tmp u, .tmp s] => (look E t).bind fun x => (look E u).bind fun y => (look E s).map fun q => .tuple #[x, y, q]
  | [.tmp t, .tmp u, .tmp s, .tmp r] => (look E t).bind fun x => (look E u).bind fun y => (look E s).bind fun q => (look E r).map fun p => .tuple #[x, y, q, p]
  | _ => none

theorem Has.get' {N : Nat} {E : Env} {a : Act} (h : Has N E a) (t : Nat) (v : Value) (hv : look E t = some v) : a.tmps[t]?.getD undef = v := by
  rw [← Array.getD_eq_getD_getElem?]; exact h.get t v hv

theorem resOf_run {fn : Func} {E : Env} {v : Value} (h : resOf fn E = some v) {N : Nat} {a : Act} (ha : Has N E a) (P : Program) (w : World) :
    (results fn a.tmps).run P w = .ok v w := by
  obtain ⟨l, hl⟩ : ∃ l, fn.results = l.toArray := ⟨fn.results.toList, by simp⟩
  simp only [resOf, hl] at h
  split at h
  · cases h; simp [results, hl]
  · simp [results, hl, ha.get' _ v h]
  · simp only [Option.bind_eq_some_iff, Option.map_eq_some_iff] at h
    obtain ⟨x, hx, y, hy, rfl⟩ := h
    simp [results, hl, ha.get' _ _ hx, ha.get' _ _ hy]
  · simp only [Option.bind_eq_some_iff, Option.map_eq_some_iff] at h
    obtain ⟨x, hx, y, hy, q, hq, rfl⟩ := h
    simp [results, hl, ha.get' _ _ hx, ha.get' _ _ hy, ha.get' _ _ hq]
  · simp only [Option.bind_eq_some_iff, Option.map_eq_some_iff] at h
    obtain ⟨x, hx, y, hy, q, hq, p, hp, rfl⟩ := h
    simp [results, hl, ha.get' _ _ hx, ha.get' _ _ hy, ha.get' _ _ hq, ha.get' _ _ hp]
  · cases h

/-- What a function must show at its end. -/
def FnQ (P : Program) (fn : Func) (z : World) (R : Value → Hp → Prop) : Exit → Act → World → Prop :=
  bodyPost P fn fun e w' => ∃ v M', e = .returned v ∧ R v M' ∧ Own z w' M'

theorem FnC.intro {P : Program} {f : FuncId} {fn : Func} {c : Code} {args : Array Value} {M : Hp} {R : Value → Hp → Prop} (hf : P.funcs[f]? = some fn) (hb : fn.body = some c)
    (N : Nat) (hN : fn.ntmps = N) (hs : args.size ≤ N) (h : ∀ z, TC P N z (FnQ P fn z R) c (argEnv 0 args.toList) M) : FnC P f args M R := by
  intro z w hw
  refine calls_of_wp hf hb ?_
  rw [hN]
  exact h z _ w (Has.entry args N hs) hw

theorem TC.ret {P : Program} {N : Nat} {z : World} {Q : Exit → Act → World → Prop} {fn : Func} {R : Value → Hp → Prop} {E : Env} {M : Hp} {v : Value}
    (hQ : ∀ a w, FnQ P fn z R .ret a w → Q .ret a w) (hv : resOf fn E = some v) (hR : R v M) : TC P N z Q .ret E M :=
  fun a w ha hw => wp_ret (hQ a w ⟨ha.defers, v, resOf_run hv ha P w, v, M, rfl, hR, hw⟩)

theorem AtX.end {P : Program} {N : Nat} {z : World} {fn : Func} {R : Value → Hp → Prop} {E : Env} {M : Hp} {v : Value}
    (hv : resOf fn E = some v) (hR : R v M) : AtX N z (FnQ P fn z R) .normal E M :=
  fun a w ha hw => ⟨ha.defers, v, resOf_run hv ha P w, v, M, rfl, hR, hw⟩

section
variable {P : Program} {N : Nat} {z : World} {Q : Exit → Act → World → Prop} {E : Env} {M : Hp}

theorem TC.seq {x y : Code} (h : TC P N z (Exit.then (y.wp P Q) Q) x E M) : TC P N z Q (.seq x y) E M := fun a w ha hw => wp_seq (h a w ha hw)

theorem TC.skip (h : AtX N z Q .normal E M) : TC P N z Q .skip E M := fun a w ha hw => wp_skip (h a w ha hw)
theorem TC.exit {id : Nat} (h : AtX N z Q (.exit id) E M) : TC P N z Q (.exit id) E M := fun a w ha hw => wp_exit (h a w ha hw)
theorem TC.block {id : Nat} {c : Code} (h : TC P N z (Exit.inBlock id Q) c E M) : TC P N z Q (.block id c) E M := fun a w ha hw => wp_block (h a w ha hw)

theorem TC.region {id : Nat} {l : List Oper} (h : TL P N z l.toArray Q l E M) : TC P N z Q (.region id l.toArray false) E M := fun a w ha hw => wp_region_lit (h a w ha hw)

theorem TC.cond {c : Operand} {x y : Code} {t : Bool} (hc : ev E c = some (.bool t)) (h1 : t = true → TC P N z Q x E M) (h2 : t = false → TC P N z Q y E M) : TC P N z Q (.cond c x y) E M :=
  fun a w ha hw => wp_cond_split (ha.ev hc) (fun e => h1 e a w ha hw) (fun e => h2 e a w ha hw)

theorem TC.condP {c : Operand} {x y : Code} {p : Prop} {dp : Decidable p} (hc : ev E c = some (.bool (decide p))) (h1 : p → TC P N z Q x E M) (h2 : ¬ p → TC P N z Q y E M) : TC P N z Q (.cond c x y) E M :=
  TC.cond hc (fun e => h1 (of_decide_eq_true e)) (fun e => h2 (of_decide_eq_false e))

theorem TC.condT {c : Operand} {x y : Code} (hc : ev E c = some (.bool true)) (h : TC P N z Q x E M) : TC P N z Q (.cond c x y) E M := TC.cond hc (fun _ => h) (fun e => by cases e)
theorem TC.condF {c : Operand} {x y : Code} (hc : ev E c = some (.bool false)) (h : TC P N z Q y E M) : TC P N z Q (.cond c x y) E M := TC.cond hc (fun e => by cases e) (fun _ => h)

/-- Behind a piece of code: the code that follows. -/
theorem AtX.then {y : Code} (h : TC P N z Q y E M) : AtX N z (Exit.then (y.wp P Q) Q) .normal E M := fun a w ha hw => h a w ha hw
theorem AtX.weak {e : Exit} {E' : Env} {M' : Hp} (hE : Sub E' E) (hM : ∀ w, Own z w M → Own z w M') (h : AtX N z Q e E' M') : AtX N z Q e E M := fun a w ha hw => h a w (ha.sub hE) (hM w hw)
theorem TC.weak {c : Code} {E' : Env} {M' : Hp} (hE : Sub E' E) (hM : ∀ w, Own z w M → Own z w M') (h : TC P N z Q c E' M') : TC P N z Q c E M := fun a w ha hw => h a w (ha.sub hE) (hM w hw)
theorem TC.env {c : Code} {E' : Env} (hE : Sub E' E) (h : TC P N z Q c E' M) : TC P N z Q c E M := fun a w ha hw => h a w (ha.sub hE) hw
theorem TC.heap {c : Code} {M' : Hp} (hM : ∀ w, Own z w M → Own z w M') (h : TC P N z Q c E M') : TC P N z Q c E M := fun a w ha hw => h a w ha (hM w hw)
theorem TL.heap {ops : Array Oper} {l : List Oper} {M' : Hp} (hM : ∀ w, Own z w M → Own z w M') (h : TL P N z ops Q l E M') : TL P N z ops Q l E M := fun a w ha hw => h a w ha (hM w hw)
theorem TL.env {ops : Array Oper} {l : List Oper} {E' : Env} (hE : Sub E' E) (h : TL P N z ops Q l E' M) : TL P N z ops Q l E M := fun a w ha hw => h a w (ha.sub hE) hw

theorem TL.nil {ops : Array Oper} (h : AtX N z Q .normal E M) : TL P N z ops Q [] E M := fun a w ha hw => wpList_nil (h a w ha hw)

/-- The ways through x meet again behind it, in one of a family of states. -/
theorem TC.join {ι : Type} {x y : Code} (Ei : ι → Env) (Mi : ι → Hp) (I : ι → Prop)
    (hx : TC P N z (Exit.then (fun a w => ∃ i, I i ∧ Has N (Ei i) a ∧ Own z w (Mi i)) Q) x E M) (hy : ∀ i, I i → TC P N z Q y (Ei i) (Mi i)) : TC P N z Q (.seq x y) E M :=
  TC.seq fun a w ha hw => wp_mono (hx a w ha hw) fun e a w h => by
    cases e with
    | normal => obtain ⟨i, hi, h1, h2⟩ := h; exact hy i hi a w h1 h2
    | _ => exact h

theorem AtX.join {ι : Type} {Ei : ι → Env} {Mi : ι → Hp} {I : ι → Prop} (i : ι) (hi : I i) (hE : Sub (Ei i) E) (hM : ∀ w, Own z w M → Own z w (Mi i)) :
    AtX N z (Exit.then (fun a w => ∃ i, I i ∧ Has N (Ei i) a ∧ Own z w (Mi i)) Q) .normal E M := fun a w ha hw => ⟨i, hi, ha.sub hE, hM w hw⟩

/-- A loop: a family of states at its head, each round lowers a measure. -/
theorem TC.loop {ι : Type} {c : Code} (Ei : ι → Env) (Mi : ι → Hp) (I : ι → Prop) (μ : ι → Nat) (i0 : ι) (h0 : I i0) (hE : Sub (Ei i0) E) (hM : ∀ w, Own z w M → Own z w (Mi i0))
    (round : ∀ i, I i → TC P N z (Exit.then (fun a w => ∃ j, I j ∧ μ j < μ i ∧ Has N (Ei j) a ∧ Own z w (Mi j)) Q) c (Ei i) (Mi i)) : TC P N z Q (.loop c) E M := by
  intro a w ha hw b k cs
  have key : ∀ n i, μ i = n → I i → ∀ a w, Has N (Ei i) a → Own z w (Mi i) →
      ∃ e a' w', Q e a' w' ∧ Arrives P (lone (b.at a (.code c :: .inLoop c :: k)) cs w) b k cs e a' w' := by
    intro n
    induction n using Nat.strongRecOn with
    | _ n ih =>
      intro i hn hI a w ha hw
      obtain ⟨e, a₁, w₁, hq, harr⟩ := round i hI a w ha hw b (.inLoop c :: k) cs
      cases e with
      | normal =>
        obtain ⟨j, hj, hlt, ha1, hw1⟩ := hq
        obtain ⟨e₂, a₂, w₂, hq₂, harr₂⟩ := ih (μ j) (hn ▸ hlt) j rfl hj a₁ w₁ ha1 hw1
        exact ⟨e₂, a₂, w₂, hq₂, .of_steps (Steps.trans harr (.one step_inLoop)) harr₂⟩
      | exit id => exact ⟨_, a₁, w₁, hq, .pass (x := .inLoop c) rfl (fun _ _ => .inl (by simp)) harr⟩
      | goto l => exact ⟨_, a₁, w₁, hq, .pass (x := .inLoop c) rfl (fun _ _ => .inl (by simp)) harr⟩
      | ret => exact ⟨_, a₁, w₁, hq, .pass (x := .inLoop c) rfl (fun _ _ => .inl (by simp)) harr⟩
      | panic ch => exact ⟨_, a₁, w₁, hq, .pass (x := .inLoop c) rfl (fun _ _ => .inl (by simp)) harr⟩
      | outgrown => exact ⟨_, a₁, w₁, hq, .pass (x := .inLoop c) rfl (fun _ _ => .inl (by simp)) harr⟩
  obtain ⟨e, a', w', hq, harr⟩ := key _ i0 rfl h0 a w (ha.sub hE) (hM w hw)
  exact ⟨e, a', w', hq, .of_steps (.one step_loop) harr⟩

theorem AtX.round {ι : Type} {Ei : ι → Env} {Mi : ι → Hp} {I : ι → Prop} {μ : ι → Nat} {i : ι} (j : ι) (hj : I j) (hlt : μ j < μ i) (hE : Sub (Ei j) E) (hM : ∀ w, Own z w M → Own z w (Mi j)) :
    AtX N z (Exit.then (fun a w => ∃ j, I j ∧ μ j < μ i ∧ Has N (Ei j) a ∧ Own z w (Mi j)) Q) .normal E M := fun a w ha hw => ⟨j, hj, hlt, ha.sub hE, hM w hw⟩
end
end Go.X
/- The engine: the operations that only compute or read. -/
set_option linter.unusedVariables false
set_option linter.unusedSimpArgs false
namespace Go.X
open Go Go.RowKit

/-- In every frame of E and world of M the operation yields v and leaves the world. -/
def Val (P : Program) (N : Nat) (z : World) (E : Env) (M : Hp) (o : Oper) (v : Value) : Prop :=
  ∀ a w, Has N E a → Own z w M → (execOp a.eval o).run P w = .ok (.value v) w

def gd (g want : Bool) (v : Value) : Value := bif g == want then v else undef

section
variable {P : Program} {N : Nat} {z : World} {Q : Exit → Act → World → Prop} {E : Env} {M : Hp} {ops : Array Oper} {rest : List Oper}

theorem TL.op {o : Oper} (hg : o.guard = none) (h : ∀ a w, Has N E a → Own z w M → o.wp P a w (wpList P ops Q rest) Q) : TL P N z ops Q (o :: rest) E M :=
  fun a w ha hw => wpList_plain hg fun K hK => Oper.wp_mono hK (h a w ha hw)

theorem TL.val {o : Oper} {d : Nat} {v : Value} (hg : o.guard = none) (hd : o.dst = some d) (hN : d < N) (h : Val P N z E M o v) (k : TL P N z ops Q rest ((d, v) :: E) M) :
    TL P N z ops Q (o :: rest) E M :=
  TL.op hg fun a w ha hw => by
    simp only [Oper.wp, h a w ha hw, Oper.upon, hd]
    exact k _ _ (ha.put hN v) hw

theorem yielded_look {a : Act} {j d : Nat} (ha : Has N E a) (hd : d < N) (hj : (ops[j]?).bind (·.dst) = some d) {b : Bool} (hb : look E d = some (.bool b)) : yielded ops a.tmps j = some b := by
  have := ha.get _ _ hb
  simp only [yielded, hj, Option.bind_some]
  rw [Array.getElem?_eq_getElem (by rw [ha.size]; exact hd)]
  rw [Array.getD_eq_getD_getElem?, Array.getElem?_eq_getElem (by rw [ha.size]; exact hd)] at this
  simp at this
  rw [this]

/-- A guarded operation whose guard says no. -/
theorem TL.pass {o : Oper} {d j dj : Nat} {want b : Bool} (hg : o.guard = some (j, want)) (hd : o.dst = some d) (hN : d < N) (hj : (ops[j]?).bind (·.dst) = some dj) (hM : dj < N)
    (hb : look E dj = some (.bool b)) (hne : (b == want) = false) (k : TL P N z ops Q rest ((d, undef) :: E) M) : TL P N z ops Q (o :: rest) E M := fun a w ha hw => by
  have hy := yielded_look ha hM hj hb
  have hw' : Region.wanted o (yielded ops a.tmps) = false := by
    simp only [Region.wanted, hg, hy]
    cases b <;> cases want <;> simp at hne ⊢
  refine wpList_skip hw' ?_
  rw [hd]
  exact k _ _ (ha.put hN _) hw

theorem yielded_undef {a : Act} {j d : Nat} (ha : Has N E a) (hd : d < N) (hj : (ops[j]?).bind (·.dst) = some d) (hb : look E d = some undef) : yielded ops a.tmps j = none := by
  have := ha.get _ _ hb
  simp only [yielded, hj, Option.bind_some]
  rw [Array.getElem?_eq_getElem (by rw [ha.size]; exact hd)]
  rw [Array.getD_eq_getD_getElem?, Array.getElem?_eq_getElem (by rw [ha.size]; exact hd)] at this
  simp at this
  rw [this]
  rfl
theorem TL.passU {o : Oper} {d j dj : Nat} {want : Bool} (hg : o.guard = some (j, want)) (hd : o.dst = some d) (hN : d < N) (hj : (ops[j]?).bind (·.dst) = some dj) (hM : dj < N)
    (hb : look E dj = some undef) (k : TL P N z ops Q rest ((d, undef) :: E) M) : TL P N z ops Q (o :: rest) E M := fun a w ha hw => by
  have hw' : Region.wanted o (yielded ops a.tmps) = false := by
    simp only [Region.wanted, hg, yielded_undef ha hM hj hb]
    rfl
  refine wpList_skip hw' ?_
  rw [hd]
  exact k _ _ (ha.put hN _) hw

theorem TL.passNone {o : Oper} {j dj : Nat} {want b : Bool} (hg : o.guard = some (j, want)) (hd : o.dst = none) (hj : (ops[j]?).bind (·.dst) = some dj) (hM : dj < N)
    (hb : look E dj = some (.bool b)) (hne : (b == want) = false) (k : TL P N z ops Q rest E M) : TL P N z ops Q (o :: rest) E M := fun a w ha hw => by
  have hy := yielded_look ha hM hj hb
  have hw' : Region.wanted o (yielded ops a.tmps) = false := by
    simp only [Region.wanted, hg, hy]
    cases b <;> cases want <;> simp at hne ⊢
  refine wpList_skip hw' ?_
  rw [hd]
  exact k _ _ ha hw

theorem wanted_yes {a : Act} {o : Oper} {j dj : Nat} {want : Bool} (hg : o.guard = some (j, want)) (ha : Has N E a) (hj : (ops[j]?).bind (·.dst) = some dj) (hM : dj < N)
    (hb : look E dj = some (.bool want)) : Region.wanted o (yielded ops a.tmps) = true := by
  simp only [Region.wanted, hg, yielded_look ha hM hj hb]
  simp

/-- A guarded operation whose guard says yes. -/
theorem TL.opYes {o : Oper} {j dj : Nat} {want : Bool} (hg : o.guard = some (j, want)) (hj : (ops[j]?).bind (·.dst) = some dj) (hM : dj < N) (hb : look E dj = some (.bool want))
    (h : ∀ a w, Has N E a → Own z w M → o.wp P a w (wpList P ops Q rest) Q) : TL P N z ops Q (o :: rest) E M := fun a w ha hw =>
  wpList_step fun K hK => by
    rw [if_pos (wanted_yes hg ha hj hM hb)]
    exact Oper.wp_mono hK (h a w ha hw)

/-- A guarded operation that only reads, whatever the guard says. -/
theorem TL.gval {o : Oper} {d j dj : Nat} {want g : Bool} {v : Value} (hg : o.guard = some (j, want)) (hd : o.dst = some d) (hN : d < N) (hj : (ops[j]?).bind (·.dst) = some dj) (hM : dj < N)
    (hb : look E dj = some (.bool g)) (h : g = want → Val P N z E M o v) (k : TL P N z ops Q rest ((d, gd g want v) :: E) M) : TL P N z ops Q (o :: rest) E M := by
  by_cases e : g = want
  · subst e
    refine TL.opYes hg hj hM hb fun a w ha hw => ?_
    simp only [Oper.wp, h rfl a w ha hw, Oper.upon, hd]
    have : gd g g v = v := by simp [gd]
    rw [this] at k
    exact k _ _ (ha.put hN v) hw
  · have : gd g want v = undef := by cases g <;> cases want <;> simp_all [gd]
    rw [this] at k
    exact TL.pass hg hd hN hj hM hb (by simp [e]) k

/-- A Bool under a name of its own. -/
theorem TL.gen {l : List Oper} {d : Nat} {b : Bool} (k : ∀ g, g = b → TL P N z ops Q l ((d, .bool g) :: E) M) : TL P N z ops Q l ((d, .bool b) :: E) M := k b rfl

/-! ### values -/

/-- Is t no struct and no array? -/
def aggQ (P : Program) (t : TypeId) : Option Bool := (P.underlying t).map fun | .struct _ => true | .array _ _ => true | _ => false
def sizQ (P : Program) (t : TypeId) : Option Nat := (P.info? t).map (·.size)
def bytQ (P : Program) (t : TypeId) : Option Nat := (P.info? t).map (·.bytes)
def zerQ (P : Program) (t : TypeId) : Option Value := (P.info? t).bind (·.zero)
def fldQ (P : Program) (t : TypeId) (f : Nat) : Option (Nat × TypeId) := match P.underlying t with | some (.struct fs) => (fs[f]?).map fun x => (x.offset, x.type) | _ => none

theorem run_isAgg {t : TypeId} {b : Bool} (h : aggQ P t = some b) (w : World) : (isAgg t).run P w = .ok b w := by
  simp only [aggQ, Option.map_eq_some_iff] at h
  obtain ⟨d, hd, hb⟩ := h
  simp only [isAgg, Sem.run_bind, run_underlying hd, Result.andThen]
  subst hb
  cases d <;> rfl

theorem run_sizeOf {t : TypeId} {n : Nat} (h : sizQ P t = some n) (w : World) : (sizeOf t).run P w = .ok n w := by
  simp only [sizQ, Option.map_eq_some_iff] at h
  obtain ⟨i, hi, rfl⟩ := h
  simp [sizeOf, typeInfo, hi]

theorem run_zero {t : TypeId} {v : Value} (h : zerQ P t = some v) (w : World) : (zeroValue t).run P w = .ok v w := by
  simp only [zerQ, Option.bind_eq_some_iff] at h
  obtain ⟨i, hi, hz⟩ := h
  simp [zeroValue, typeInfo, hi, hz]

section
variable {dst : Option Tmp} {ty : TypeId} {pos : String} {af : Array Edge} {gu : Option (Nat × Bool)}

theorem Val.move {x : Operand} {v : Value} (h : ev E x = some v) : Val P N z E M ⟨dst, .move x, ty, pos, af, gu⟩ v := fun a w ha hw => by
  simp [execOp, ha.ev h]

theorem Val.assign {x : Operand} {v : Value} (h : ev E x = some v) : Val P N z E M ⟨dst, .assign x, ty, pos, af, gu⟩ v := fun a w ha hw => by
  simp [execOp, ha.ev h]

theorem Val.pick {c x y : Operand} {g : Bool} {u v : Value} (hc : ev E c = some (.bool g)) (hx : ev E x = some u) (hy : ev E y = some v) :
    Val P N z E M ⟨dst, .pick c x y, ty, pos, af, gu⟩ (bif g then u else v) := fun a w ha hw => by
  simp only [execOp, ha.ev hc, ha.ev hx, ha.ev hy, asBool]
  cases g <;> rfl

theorem Val.pickAnd {c x y : Operand} {g b : Bool} (hc : ev E c = some (.bool g)) (hx : ev E x = some (gd g true (.bool b))) (hy : ev E y = some (.bool false)) :
    Val P N z E M ⟨dst, .pick c x y, ty, pos, af, gu⟩ (.bool (g && b)) := by
  have := Val.pick (P := P) (N := N) (z := z) (M := M) (dst := dst) (ty := ty) (pos := pos) (af := af) (gu := gu) hc hx hy
  cases g <;> exact this

theorem Val.pickOr {c x y : Operand} {g b : Bool} (hc : ev E c = some (.bool g)) (hx : ev E x = some (.bool true)) (hy : ev E y = some (gd g false (.bool b))) :
    Val P N z E M ⟨dst, .pick c x y, ty, pos, af, gu⟩ (.bool (g || b)) := by
  have := Val.pick (P := P) (N := N) (z := z) (M := M) (dst := dst) (ty := ty) (pos := pos) (af := af) (gu := gu) hc hx hy
  cases g <;> exact this

theorem addr_add (b o n : Nat) : (⟨b, o, none⟩ : Addr).add n = ⟨b, o + n, none⟩ := by
  unfold Addr.add; split <;> simp_all

theorem Val.fieldAddr {s : TypeId} {x : Operand} {f b o off r : Nat} {ft : TypeId} {n : Nat} (hx : ev E x = some (.pointer (some ⟨b, o, none⟩))) (hf : fldQ P s f = some (off, ft)) (hn : sizQ P ft = some (n + 1)) (hr : o + off = r) :
    Val P N z E M ⟨dst, .fieldAddr s x f, ty, pos, af, gu⟩ (.pointer (some ⟨b, r, none⟩)) := fun a w ha hw => by
  subst hr
  unfold fldQ at hf
  split at hf
  · rename_i fs hfs
    simp only [Option.map_eq_some_iff] at hf
    obtain ⟨fd, h1, h2⟩ := hf
    cases h2
    simp [execOp, ha.ev hx, Instr.fieldAt, run_underlying hfs, h1, Instr.sureAddr, fieldPlace, run_sizeOf hn, Result.andThen, addr_add]
  · cases hf

theorem Val.nilCheck {x : Operand} {p : Addr} (hx : ev E x = some (.pointer (some p))) : Val P N z E M ⟨dst, .nilCheck x, ty, pos, af, gu⟩ (.pointer (some p)) := fun a w ha hw => by
  simp [execOp, ha.ev hx]

theorem cell_of {w : World} {b off : Nat} {cs : Array Value} {T : TypeId} {fz : Nat × Nat} (h : w.heap[b]? = some (.cells cs T fz)) : w.cell? ⟨b, off, none⟩ = cs[off]? := by
  simp [World.cell?, h]

def nth : List Value → Nat → Option Value
  | [], _ => none
  | x :: _, 0 => some x
  | _ :: r, n + 1 => nth r n
theorem nth_eq : ∀ (l : List Value) (n : Nat), nth l n = l[n]?
  | [], n => by simp [nth]
  | x :: r, 0 => by simp [nth]
  | x :: r, n + 1 => by simp [nth, nth_eq r n]

/-- so many from a place on -/
def seg : List Value → Nat → Nat → List Value
  | _, _, 0 => []
  | [], _, _ => []
  | x :: r, 0, n + 1 => x :: seg r 0 n
  | _ :: r, o + 1, n + 1 => seg r o (n + 1)
theorem seg_eq : ∀ (l : List Value) (o n : Nat), seg l o n = (l.drop o).take n
  | l, o, 0 => by cases l <;> simp [seg]
  | [], o, n + 1 => by simp [seg]
  | x :: r, 0, n + 1 => by simp [seg, seg_eq r 0 n]
  | x :: r, o + 1, n + 1 => by simp [seg, seg_eq r o (n + 1)]
theorem seg_arr {cs : Array Value} {off n : Nat} {vs : List Value} (h : seg cs.toList off n = vs) : cs.extract off (off + n) = vs.toArray := by
  apply Array.ext'
  rw [seg_eq] at h
  rw [← h]
  simp

theorem Val.load {t : TypeId} {x : Operand} {b off : Nat} {cs : Array Value} {T : TypeId} {fz : Nat × Nat} {v : Value} (i : Nat) (hx : ev E x = some (.pointer (some ⟨b, off, none⟩))) (ht : aggQ P t = some false)
    (hi : M[i]? = some (b, .cells cs T fz)) (hv : nth cs.toList off = some v) : Val P N z E M ⟨dst, .load t x, ty, pos, af, gu⟩ v := fun a w ha hw => by
  rw [nth_eq, Array.getElem?_toList] at hv
  have hc := (cell_of (off := off) (hw.at hi)).trans hv
  simp [execOp, ha.ev hx, Instr.loadAt, Instr.sureAddr, loadVar, run_isAgg ht, Result.andThen, hc]

theorem Val.loadAgg {t : TypeId} {x : Operand} {b off n : Nat} {cs : Array Value} {T : TypeId} {fz : Nat × Nat} {vs : List Value} (i : Nat) (hx : ev E x = some (.pointer (some ⟨b, off, none⟩))) (ht : aggQ P t = some true)
    (hn : sizQ P t = some n) (hi : M[i]? = some (b, .cells cs T fz)) (hv : seg cs.toList off n = vs) (hs : vs.length = n) : Val P N z E M ⟨dst, .load t x, ty, pos, af, gu⟩ (.agg vs.toArray) := fun a w ha hw => by
  have hv := seg_arr hv
  have hl := run_loadCells_list (P := P) (w := w) ⟨b, off, none⟩ vs (fun j v hj => by
    rw [addr_add, cell_of (hw.at hi)]
    have : vs.toArray[j]? = some v := by simpa using hj
    rw [← hv, Array.getElem?_extract] at this
    split at this
    · exact this
    · cases this)
  simp only [hs] at hl
  simp [execOp, ha.ev hx, Instr.loadAt, Instr.sureAddr, loadVar, run_isAgg ht, run_sizeOf hn, Result.andThen, hl]

theorem Val.extract {x : Operand} {vs : Array Value} {i : Nat} {v : Value} (hx : ev E x = some (.tuple vs)) (hv : nth vs.toList i = some v) : Val P N z E M ⟨dst, .extract x i, ty, pos, af, gu⟩ v := fun a w ha hw => by
  rw [nth_eq, Array.getElem?_toList] at hv
  simp [execOp, ha.ev hx, Instr.extract, hv]

theorem Val.field {t : TypeId} {x : Operand} {f : Nat} {cs : Array Value} {off : Nat} {ft : TypeId} {v : Value} (hx : ev E x = some (.agg cs)) (hf : fldQ P t f = some (off, ft)) (ht : aggQ P ft = some false) (hv : nth cs.toList off = some v) :
    Val P N z E M ⟨dst, .field t x f, ty, pos, af, gu⟩ v := fun a w ha hw => by
  rw [nth_eq, Array.getElem?_toList] at hv
  unfold fldQ at hf
  split at hf
  · rename_i fs hfs
    simp only [Option.map_eq_some_iff] at hf
    obtain ⟨fd, h1, h2⟩ := hf
    cases h2
    simp [execOp, ha.ev hx, Instr.field, run_underlying hfs, h1, part, asAgg, run_isAgg ht, Result.andThen, hv]
  · cases hf

theorem Val.fieldAgg {t : TypeId} {x : Operand} {f : Nat} {cs : Array Value} {vs : List Value} {off n : Nat} {ft : TypeId} (hx : ev E x = some (.agg cs)) (hf : fldQ P t f = some (off, ft)) (ht : aggQ P ft = some true) (hn : sizQ P ft = some n) (hv : seg cs.toList off n = vs) :
    Val P N z E M ⟨dst, .field t x f, ty, pos, af, gu⟩ (.agg vs.toArray) := fun a w ha hw => by
  have hv := seg_arr hv
  unfold fldQ at hf
  split at hf
  · rename_i fs hfs
    simp only [Option.map_eq_some_iff] at hf
    obtain ⟨fd, h1, h2⟩ := hf
    cases h2
    simp [execOp, ha.ev hx, Instr.field, run_underlying hfs, h1, part, asAgg, run_isAgg ht, run_sizeOf hn, Result.andThen, hv]
  · cases hf

end
end
end Go.X
/- The engine: integers, Bools, strings, nil tests, lengths, slicing: values. -/
set_option linter.unusedVariables false
set_option linter.unusedSimpArgs false
namespace Go.X
open Go Go.RowKit

theorem w_i64 {e : Int} (h1 : -9223372036854775808 ≤ e) (h2 : e ≤ 9223372036854775807) : IntKind.i64.wrap e = e := by
  simp [IntKind.wrap, IntKind.signed, IntKind.bits]; split <;> omega
theorem w_u64m {e : Int} : IntKind.u64.wrap e = e % 18446744073709551616 := by simp [IntKind.wrap, IntKind.signed, IntKind.bits]
theorem w_u32m {e : Int} : IntKind.u32.wrap e = e % 4294967296 := by simp [IntKind.wrap, IntKind.signed, IntKind.bits]
theorem w_u8m {e : Int} : IntKind.u8.wrap e = e % 256 := by simp [IntKind.wrap, IntKind.signed, IntKind.bits]
theorem w_u64 {e : Int} (h1 : 0 ≤ e) (h2 : e ≤ 18446744073709551615) : IntKind.u64.wrap e = e := by rw [w_u64m]; omega
theorem w_u32 {e : Int} (h1 : 0 ≤ e) (h2 : e ≤ 4294967295) : IntKind.u32.wrap e = e := by rw [w_u32m]; omega
theorem w_u8 {e : Int} (h1 : 0 ≤ e) (h2 : e ≤ 255) : IntKind.u8.wrap e = e := by rw [w_u8m]; omega

section
variable {P : Program} {N : Nat} {z : World} {E : Env} {M : Hp}
variable {dst : Option Tmp} {ty : TypeId} {pos : String} {af : Array Edge} {gu : Option (Nat × Bool)} {t yt : TypeId} {x y : Operand} {k : IntKind} {m n r : Int}

theorem Val.same {o : Oper} {v v' : Value} (h : Val P N z E M o v) (e : v = v') : Val P N z E M o v' := e ▸ h

theorem Val.add (hx : ev E x = some (.int k m)) (hy : ev E y = some (.int k n)) (hr : k.wrap (m + n) = r) : Val P N z E M ⟨dst, .binOp .add t x y yt, ty, pos, af, gu⟩ (.int k r) := fun a w ha hw => by
  simp [execOp, ha.ev hx, ha.ev hy, eqGuard_at_int, binOp, Op.intArith, hr]
theorem Val.sub (hx : ev E x = some (.int k m)) (hy : ev E y = some (.int k n)) (hr : k.wrap (m - n) = r) : Val P N z E M ⟨dst, .binOp .sub t x y yt, ty, pos, af, gu⟩ (.int k r) := fun a w ha hw => by
  simp [execOp, ha.ev hx, ha.ev hy, eqGuard_at_int, binOp, Op.intArith, hr]
theorem Val.mul (hx : ev E x = some (.int k m)) (hy : ev E y = some (.int k n)) (hr : k.wrap (m * n) = r) : Val P N z E M ⟨dst, .binOp .mul t x y yt, ty, pos, af, gu⟩ (.int k r) := fun a w ha hw => by
  simp [execOp, ha.ev hx, ha.ev hy, eqGuard_at_int, binOp, Op.intArith, hr]
theorem Val.quo (hx : ev E x = some (.int k m)) (hy : ev E y = some (.int k n)) (h0 : n ≠ 0) (hr : k.wrap (m.tdiv n) = r) : Val P N z E M ⟨dst, .binOp .quo t x y yt, ty, pos, af, gu⟩ (.int k r) := fun a w ha hw => by
  simp [execOp, ha.ev hx, ha.ev hy, eqGuard_at_int, binOp, Op.intDiv, h0, hr]
theorem Val.rem (hx : ev E x = some (.int k m)) (hy : ev E y = some (.int k n)) (h0 : n ≠ 0) (hr : m.tmod n = r) : Val P N z E M ⟨dst, .binOp .rem t x y yt, ty, pos, af, gu⟩ (.int k r) := fun a w ha hw => by
  simp [execOp, ha.ev hx, ha.ev hy, eqGuard_at_int, binOp, Op.intDiv, h0, hr]
theorem Val.shl {k' : IntKind} (hx : ev E x = some (.int k m)) (hy : ev E y = some (.int k' n)) (h0 : 0 ≤ n) (hr : k.wrap (m * 2 ^ (min n.toNat k.bits)) = r) : Val P N z E M ⟨dst, .binOp .shl t x y yt, ty, pos, af, gu⟩ (.int k r) := fun a w ha hw => by
  have : ¬ n < 0 := by omega
  simp [execOp, ha.ev hx, ha.ev hy, eqGuard_at_int, binOp, Op.shift, this, hr]
theorem Val.shr {k' : IntKind} (hx : ev E x = some (.int k m)) (hy : ev E y = some (.int k' n)) (h0 : 0 ≤ n) (hr : m.fdiv (2 ^ (min n.toNat k.bits)) = r) : Val P N z E M ⟨dst, .binOp .shr t x y yt, ty, pos, af, gu⟩ (.int k r) := fun a w ha hw => by
  have : ¬ n < 0 := by omega
  simp [execOp, ha.ev hx, ha.ev hy, eqGuard_at_int, binOp, Op.shift, this, hr]

/-- bits: and, or, xor, and-not -/
def bitsOf (op : BinOp) (k : IntKind) (m n : Int) : Int :=
  let a := BitVec.ofInt k.bits m
  let b := BitVec.ofInt k.bits n
  k.wrap (match op with | .and => (a &&& b).toNat | .or => (a ||| b).toNat | .xor => (a ^^^ b).toNat | _ => (a &&& ~~~b).toNat : Nat)

theorem Val.and (hx : ev E x = some (.int k m)) (hy : ev E y = some (.int k n)) (hr : bitsOf .and k m n = r) : Val P N z E M ⟨dst, .binOp .and t x y yt, ty, pos, af, gu⟩ (.int k r) := fun a w ha hw => by
  subst hr
  simp [execOp, ha.ev hx, ha.ev hy, eqGuard_at_int, binOp, Op.intBits, bitsOf]
theorem Val.or (hx : ev E x = some (.int k m)) (hy : ev E y = some (.int k n)) (hr : bitsOf .or k m n = r) : Val P N z E M ⟨dst, .binOp .or t x y yt, ty, pos, af, gu⟩ (.int k r) := fun a w ha hw => by
  subst hr
  simp [execOp, ha.ev hx, ha.ev hy, eqGuard_at_int, binOp, Op.intBits, bitsOf]
theorem Val.xor (hx : ev E x = some (.int k m)) (hy : ev E y = some (.int k n)) (hr : bitsOf .xor k m n = r) : Val P N z E M ⟨dst, .binOp .xor t x y yt, ty, pos, af, gu⟩ (.int k r) := fun a w ha hw => by
  subst hr
  simp [execOp, ha.ev hx, ha.ev hy, eqGuard_at_int, binOp, Op.intBits, bitsOf]
theorem Val.andNot (hx : ev E x = some (.int k m)) (hy : ev E y = some (.int k n)) (hr : bitsOf .andNot k m n = r) : Val P N z E M ⟨dst, .binOp .andNot t x y yt, ty, pos, af, gu⟩ (.int k r) := fun a w ha hw => by
  subst hr
  simp [execOp, ha.ev hx, ha.ev hy, eqGuard_at_int, binOp, Op.intBits, bitsOf]

theorem Val.eqlI (hx : ev E x = some (.int k m)) (hy : ev E y = some (.int k n)) : Val P N z E M ⟨dst, .binOp .eql t x y yt, ty, pos, af, gu⟩ (.bool (decide (m = n))) := fun a w ha hw => by
  simp [execOp, ha.ev hx, ha.ev hy, eqGuard_at_int, binOp, Op.intCmp]; exact Bool.beq_eq_decide_eq ..
theorem Val.neqI (hx : ev E x = some (.int k m)) (hy : ev E y = some (.int k n)) : Val P N z E M ⟨dst, .binOp .neq t x y yt, ty, pos, af, gu⟩ (.bool (decide (m ≠ n))) := fun a w ha hw => by
  simp [execOp, ha.ev hx, ha.ev hy, eqGuard_at_int, binOp, Op.intCmp]; by_cases e : m = n <;> simp [e]
theorem Val.lss (hx : ev E x = some (.int k m)) (hy : ev E y = some (.int k n)) : Val P N z E M ⟨dst, .binOp .lss t x y yt, ty, pos, af, gu⟩ (.bool (decide (m < n))) := fun a w ha hw => by
  simp [execOp, ha.ev hx, ha.ev hy, eqGuard_at_int, binOp, Op.intCmp]
theorem Val.leq (hx : ev E x = some (.int k m)) (hy : ev E y = some (.int k n)) : Val P N z E M ⟨dst, .binOp .leq t x y yt, ty, pos, af, gu⟩ (.bool (decide (m ≤ n))) := fun a w ha hw => by
  simp [execOp, ha.ev hx, ha.ev hy, eqGuard_at_int, binOp, Op.intCmp]
theorem Val.gtr (hx : ev E x = some (.int k m)) (hy : ev E y = some (.int k n)) : Val P N z E M ⟨dst, .binOp .gtr t x y yt, ty, pos, af, gu⟩ (.bool (decide (n < m))) := fun a w ha hw => by
  simp [execOp, ha.ev hx, ha.ev hy, eqGuard_at_int, binOp, Op.intCmp]
theorem Val.geq (hx : ev E x = some (.int k m)) (hy : ev E y = some (.int k n)) : Val P N z E M ⟨dst, .binOp .geq t x y yt, ty, pos, af, gu⟩ (.bool (decide (n ≤ m))) := fun a w ha hw => by
  simp [execOp, ha.ev hx, ha.ev hy, eqGuard_at_int, binOp, Op.intCmp]

theorem Val.not {b : Bool} (hx : ev E x = some (.bool b)) : Val P N z E M ⟨dst, .unOp .not t x, ty, pos, af, gu⟩ (.bool (!b)) := fun a w ha hw => by
  simp [execOp, ha.ev hx, Op.unary]
theorem Val.neg (hx : ev E x = some (.int k m)) (hr : k.wrap (0 - m) = r) : Val P N z E M ⟨dst, .unOp .neg t x, ty, pos, af, gu⟩ (.int k r) := fun a w ha hw => by
  subst hr
  simp [execOp, ha.ev hx, Op.unary, Op.intArith]
theorem Val.xorU (hx : ev E x = some (.int k m)) (hr : bitsOf .xor k (if k.signed then -1 else k.max) m = r) : Val P N z E M ⟨dst, .unOp .xor t x, ty, pos, af, gu⟩ (.int k r) := fun a w ha hw => by
  subst hr
  simp [execOp, ha.ev hx, Op.unary, Op.intBits, bitsOf]

/-- the kind of an integer type -/
def intQ (P : Program) (t : TypeId) : Option IntKind := match P.underlying t with | some (.int k) => some k | _ => none
theorem intQ_spec {t : TypeId} {k : IntKind} (h : intQ P t = some k) : P.underlying t = some (.int k) := by
  unfold intQ at h; split at h
  · rename_i k' hk; cases h; exact hk
  · cases h

theorem Val.convI {s d : TypeId} {k' : IntKind} (hx : ev E x = some (.int k m)) (hs : (P.underlying s).isSome = true) (hd : intQ P d = some k') (hr : k'.wrap m = r) :
    Val P N z E M ⟨dst, .convert s d x, ty, pos, af, gu⟩ (.int k' r) := fun a w ha hw => by
  subst hr
  obtain ⟨ds, hs⟩ := Option.isSome_iff_exists.1 hs
  simp only [execOp, ha.ev hx, convert, Sem.run_bind, run_underlying hs, run_underlying (intQ_spec hd), Result.andThen]
  cases ds <;> simp [Conv.intToInt]

/-! Bools, nil -/
theorem run_eqB {a b : Bool} (ht : P.underlying t = some .bool) (w : World) : (Op.equal t (.bool a) (.bool b)).run P w = .ok (a == b) w := by
  show (Op.equalIn (9999 + 1) t _ _).run P w = _
  unfold Op.equalIn
  simp only [Sem.run_bind, run_underlying ht, Result.andThen, Sem.run_pure]
theorem run_eqP {a : Option Addr} {e : TypeId} (ht : P.underlying t = some (.pointer e)) (w : World) : (Op.equal t (.pointer a) (.pointer none)).run P w = .ok a.isNone w := by
  show (Op.equalIn (9999 + 1) t _ _).run P w = _
  unfold Op.equalIn
  cases a <;> simp only [Sem.run_bind, run_underlying ht, Result.andThen, Sem.run_pure, Option.isNone]
theorem run_eqSl {a : Option Addr} {e l c l' c' : Nat} (ht : P.underlying t = some (.slice e)) (w : World) : (Op.equal t (.slice a l c) (.slice none l' c')).run P w = .ok a.isNone w := by
  show (Op.equalIn (9999 + 1) t _ _).run P w = _
  unfold Op.equalIn
  cases a <;> simp only [Sem.run_bind, run_underlying ht, Result.andThen, Sem.run_pure, Option.isNone]
theorem Val.eqlB {a b : Bool} (hx : ev E x = some (.bool a)) (hy : ev E y = some (.bool b)) (ht : P.underlying t = some .bool) : Val P N z E M ⟨dst, .binOp .eql t x y yt, ty, pos, af, gu⟩ (.bool (a == b)) := fun a w ha hw => by
  simp only [execOp, ha.ev hx, ha.ev hy, eqGuard_at_bool, binOp, Sem.run_bind, Sem.run_pure, run_eqB ht, Result.andThen]
theorem Val.neqB {a b : Bool} (hx : ev E x = some (.bool a)) (hy : ev E y = some (.bool b)) (ht : P.underlying t = some .bool) : Val P N z E M ⟨dst, .binOp .neq t x y yt, ty, pos, af, gu⟩ (.bool (!(a == b))) := fun a w ha hw => by
  simp only [execOp, ha.ev hx, ha.ev hy, eqGuard_at_bool, binOp, Sem.run_bind, Sem.run_pure, run_eqB ht, Result.andThen]

def ptrQ (P : Program) (t : TypeId) : Bool := match P.underlying t with | some (.pointer _) => true | _ => false
theorem ptrQ_spec {t : TypeId} (h : ptrQ P t = true) : ∃ e, P.underlying t = some (.pointer e) := by
  unfold ptrQ at h; split at h
  · rename_i e he; exact ⟨e, he⟩
  · cases h

/-- p == nil, where p is a pointer -/
theorem Val.eqlNil {p : Option Addr} (hx : ev E x = some (.pointer p)) (hy : ev E y = some (.pointer none)) (ht : ptrQ P t = true) : Val P N z E M ⟨dst, .binOp .eql t x y yt, ty, pos, af, gu⟩ (.bool p.isNone) := fun a w ha hw => by
  obtain ⟨e, ht⟩ := ptrQ_spec ht
  have hq : eqGuard .eql t x y (.pointer p) (.pointer none) = pure () := rfl
  simp only [execOp, ha.ev hx, ha.ev hy, hq, binOp, Sem.run_bind, Sem.run_pure, run_eqP ht, Result.andThen]
  try (cases p <;> rfl)
theorem Val.neqNil {p : Option Addr} (hx : ev E x = some (.pointer p)) (hy : ev E y = some (.pointer none)) (ht : ptrQ P t = true) : Val P N z E M ⟨dst, .binOp .neq t x y yt, ty, pos, af, gu⟩ (.bool p.isSome) := fun a w ha hw => by
  obtain ⟨e, ht⟩ := ptrQ_spec ht
  have hq : eqGuard .neq t x y (.pointer p) (.pointer none) = pure () := rfl
  simp only [execOp, ha.ev hx, ha.ev hy, hq, binOp, Sem.run_bind, Sem.run_pure, run_eqP ht, Result.andThen]
  try (cases p <;> rfl)

def slQ (P : Program) (t : TypeId) : Option TypeId := match P.underlying t with | some (.slice e) => some e | _ => none
theorem slQ_spec {t e : TypeId} (h : slQ P t = some e) : P.underlying t = some (.slice e) := by
  unfold slQ at h; split at h
  · rename_i e' he; cases h; exact he
  · cases h

theorem Val.eqlNilS {p : Option Addr} {l c l' c' : Nat} {e : TypeId} (hx : ev E x = some (.slice p l c)) (hy : ev E y = some (.slice none l' c')) (ht : slQ P t = some e) : Val P N z E M ⟨dst, .binOp .eql t x y yt, ty, pos, af, gu⟩ (.bool p.isNone) := fun a w ha hw => by
  have ht := slQ_spec ht
  have hq : eqGuard .eql t x y (.slice p l c) (.slice none l' c') = pure () := rfl
  simp only [execOp, ha.ev hx, ha.ev hy, hq, binOp, Sem.run_bind, Sem.run_pure, run_eqSl ht, Result.andThen]
  try (cases p <;> rfl)
theorem Val.neqNilS {p : Option Addr} {l c l' c' : Nat} {e : TypeId} (hx : ev E x = some (.slice p l c)) (hy : ev E y = some (.slice none l' c')) (ht : slQ P t = some e) : Val P N z E M ⟨dst, .binOp .neq t x y yt, ty, pos, af, gu⟩ (.bool p.isSome) := fun a w ha hw => by
  have ht := slQ_spec ht
  have hq : eqGuard .neq t x y (.slice p l c) (.slice none l' c') = pure () := rfl
  simp only [execOp, ha.ev hx, ha.ev hy, hq, binOp, Sem.run_bind, Sem.run_pure, run_eqSl ht, Result.andThen]
  try (cases p <;> rfl)

/-! strings -/
theorem Val.eqlS {s u : ByteArray} (hx : ev E x = some (.string s)) (hy : ev E y = some (.string u)) : Val P N z E M ⟨dst, .binOp .eql t x y yt, ty, pos, af, gu⟩ (.bool (s.toList == u.toList)) := fun a w ha hw => by
  simp [execOp, ha.ev hx, ha.ev hy, eqGuard_at_string, binOp, Op.stringOp]
theorem Val.neqS {s u : ByteArray} (hx : ev E x = some (.string s)) (hy : ev E y = some (.string u)) : Val P N z E M ⟨dst, .binOp .neq t x y yt, ty, pos, af, gu⟩ (.bool (!(s.toList == u.toList))) := fun a w ha hw => by
  simp [execOp, ha.ev hx, ha.ev hy, eqGuard_at_string, binOp, Op.stringOp]
theorem Val.addS {s u : ByteArray} (hx : ev E x = some (.string s)) (hy : ev E y = some (.string u)) (hl : s.size + u.size ≤ 9223372036854775807) : Val P N z E M ⟨dst, .binOp .add t x y yt, ty, pos, af, gu⟩ (.string (s ++ u)) := fun a w ha hw => by
  have : ¬ (((s.size + u.size : Nat) : Int) > IntKind.i64.max) := by simp [IntKind.max, IntKind.signed, IntKind.bits]; omega
  simp only [execOp, ha.ev hx, ha.ev hy, eqGuard_at_string, binOp, Op.stringOp, this, if_false]
  rfl

/-! slices -/
theorem Val.lenSl {e : TypeId} {p : Option Addr} {l c : Nat} {at_ : Array TypeId} (hx : ev E x = some (.slice p l c)) (ha0 : at_[0]? = some t) (ht : slQ P t = some e) :
    Val P N z E M ⟨dst, .call ⟨.builtin .len, #[x], at_⟩, ty, pos, af, gu⟩ (.int .i64 l) := fun a w ha hw => by
  simp [execOp, resolve, invoke, builtin, Builtin.len_, ha.ev hx, ha0, run_underlying (slQ_spec ht), Result.andThen, goInt]

theorem Val.lenStr {s : ByteArray} {at_ : Array TypeId} (hx : ev E x = some (.string s)) (ha0 : at_[0]? = some t) (ht : P.underlying t = some .string) :
    Val P N z E M ⟨dst, .call ⟨.builtin .len, #[x], at_⟩, ty, pos, af, gu⟩ (.int .i64 s.size) := fun a w ha hw => by
  simp [execOp, resolve, invoke, builtin, Builtin.len_, ha.ev hx, ha0, run_underlying ht, Result.andThen, goInt]

theorem Val.min {at_ : Array TypeId} (hx : ev E x = some (.int k m)) (hy : ev E y = some (.int k n)) (hr : (if n < m then n else m) = r) : Val P N z E M ⟨dst, .call ⟨.builtin .min, #[x, y], at_⟩, ty, pos, af, gu⟩ (.int k r) := fun a w ha hw => by
  subst hr
  simp [execOp, resolve, invoke, builtin, Builtin.min_, Builtin.min2, ha.ev hx, ha.ev hy, Result.andThen]
theorem Val.max {at_ : Array TypeId} (hx : ev E x = some (.int k m)) (hy : ev E y = some (.int k n)) (hr : (if n > m then n else m) = r) : Val P N z E M ⟨dst, .call ⟨.builtin .max, #[x, y], at_⟩, ty, pos, af, gu⟩ (.int k r) := fun a w ha hw => by
  subst hr
  simp [execOp, resolve, invoke, builtin, Builtin.max_, Builtin.max2, ha.ev hx, ha.ev hy, Result.andThen]

/-- &x[i] of a slice -/
theorem Val.indexAddr {e : TypeId} {b o l c i sz r : Nat} (hx : ev E x = some (.slice (some ⟨b, o, none⟩) l c)) (hy : ev E y = some (.int k m)) (ht : slQ P t = some e) (hsz : sizQ P e = some sz) (hm : m = (i : Int)) (hi : i < l) (hr : o + i * sz = r) :
    Val P N z E M ⟨dst, .indexAddr t x y, ty, pos, af, gu⟩ (.pointer (some ⟨b, r, none⟩)) := fun a w ha hw => by
  subst hm; subst hr
  have h1 : (0 : Int) ≤ i ∧ (i : Int) < l := ⟨by omega, by omega⟩
  simp [execOp, Instr.indexAt, ha.ev hx, ha.ev hy, asIntOf, run_underlying (slQ_spec ht), Result.andThen, hi, run_sizeOf hsz, addr_add]

def arQ (P : Program) (t : TypeId) : Option (Nat × TypeId) := match P.underlying t with | some (.array n e) => some (n, e) | _ => none
theorem arQ_spec {t e n} (h : arQ P t = some (n, e)) : P.underlying t = some (.array n e) := by
  unfold arQ at h; split at h
  · rename_i n' e' he; cases h; exact he
  · cases h

/-- &x[i] of an array behind a pointer -/
theorem Val.indexAddrA {e : TypeId} {b o l i sz r : Nat} (hx : ev E x = some (.pointer (some ⟨b, o, none⟩))) (hy : ev E y = some (.int k m)) (ht : arQ P t = some (l, e)) (hsz : sizQ P e = some sz) (hm : m = (i : Int)) (hi : i < l) (hr : o + i * sz = r) :
    Val P N z E M ⟨dst, .indexAddr t x y, ty, pos, af, gu⟩ (.pointer (some ⟨b, r, none⟩)) := fun a w ha hw => by
  subst hm; subst hr
  simp [execOp, Instr.indexAt, Instr.sureAddr, ha.ev hx, ha.ev hy, asIntOf, run_underlying (arQ_spec ht), Result.andThen, hi, run_sizeOf hsz, addr_add]

/-- x[i] of an array value -/
theorem Val.indexA {e : TypeId} {cs : Array Value} {l i sz : Nat} {v : Value} (hx : ev E x = some (.agg cs)) (hy : ev E y = some (.int k m)) (ht : arQ P t = some (l, e)) (hsz : sizQ P e = some sz) (hg : aggQ P e = some false) (hm : m = (i : Int)) (hi : i < l)
    (hv : nth cs.toList (i * sz) = some v) : Val P N z E M ⟨dst, .index t x y, ty, pos, af, gu⟩ v := fun a w ha hw => by
  rw [nth_eq, Array.getElem?_toList] at hv
  subst hm
  simp [execOp, Instr.index, part, ha.ev hx, ha.ev hy, asIntOf, run_underlying (arQ_spec ht), Result.andThen, hi, run_sizeOf hsz, run_isAgg hg, hv]

/-- s[i] of a string -/
theorem Val.indexS {s : ByteArray} {i : Nat} {c : UInt8} (hx : ev E x = some (.string s)) (hy : ev E y = some (.int k m)) (ht : P.underlying t = some .string) (hm : m = (i : Int)) (hc : s[i]? = some c) :
    Val P N z E M ⟨dst, .index t x y, ty, pos, af, gu⟩ (.int .u8 c.toNat) := fun a w ha hw => by
  subst hm
  simp [execOp, Instr.index, ha.ev hx, ha.ev hy, asIntOf, run_underlying ht, Result.andThen, hc]

/-- x[lo:hi] of a slice; lo, hi as they are told -/
def bnd (E : Env) (d : Nat) : Option Operand → Option Int
  | none => some d
  | some x => match ev E x with | some (.int _ n) => some n | _ => none

theorem run_bound {x : Operand} {a : Act} (ha : Has N E a) {d : Nat} {n : Int} (hb : bnd E d (some x) = some n) {w : World} {cap : Nat} {i : Nat} (hn : n = (i : Int)) (hi : i ≤ cap) (code : BoundsCode) :
    (Instr.sliceBound (a.eval x) cap code).run P w = .ok i w := by
  subst hn
  simp only [bnd] at hb
  split at hb
  · rename_i k' n' he
    cases hb
    simp [Instr.sliceBound, ha.ev he, asIntOf, Result.andThen, hi]
  · cases hb

theorem Val.slice {e : TypeId} {p : Option Addr} {l c i j sz : Nat} {lo hi : Option Operand} {q : Option Addr} {il ih : Int} (hx : ev E x = some (.slice p l c)) (ht : slQ P t = some e) (hsz : sizQ P e = some sz)
    (hlo : bnd E 0 lo = some il) (hhi : bnd E l hi = some ih) (hil : il = (i : Int)) (hih : ih = (j : Int)) (hij : i ≤ j) (hjc : j ≤ c)
    (hq : (if c = i then p else p.map (·.add (i * sz))) = q) :
    Val P N z E M ⟨dst, .slice t x lo hi none, ty, pos, af, gu⟩ (.slice q (j - i) (c - i)) := fun a w ha hw => by
  subst hq
  have h3 : (Instr.sliceBounds true l c (lo.map a.eval) (hi.map a.eval) none).run P w = .ok (i, j, c) w := by
    cases hi with
    | none =>
      have hj : l = j := by simp [bnd] at hhi; omega
      subst hj
      cases lo with
      | none =>
        have hi0 : i = 0 := by simp [bnd] at hlo; omega
        subst hi0
        rfl
      | some v =>
        have h1 := run_bound (P := P) ha (d := 0) hlo (w := w) (cap := l) hil hij .sliceB
        simp only [Instr.sliceBounds, Option.map_some, Option.map_none, Sem.run_bind, Sem.run_pure, Result.andThen, Option.isSome_none, Bool.false_eq_true, if_false, h1]
    | some u =>
      have h2 := run_bound (P := P) ha (d := l) hhi (w := w) (cap := c) hih hjc .sliceAcap
      cases lo with
      | none =>
        have hi0 : i = 0 := by simp [bnd] at hlo; omega
        subst hi0
        simp only [Instr.sliceBounds, Option.map_some, Option.map_none, Sem.run_bind, Sem.run_pure, Result.andThen, if_true, h2]
      | some v =>
        have h1 := run_bound (P := P) ha (d := 0) hlo (w := w) (cap := j) hil hij .sliceB
        simp only [Instr.sliceBounds, Option.map_some, Option.map_none, Sem.run_bind, Sem.run_pure, Result.andThen, Option.isSome_none, Bool.false_eq_true, if_false, if_true, h2, h1]
  simp only [execOp, ha.ev hx, Instr.sliceAt, Instr.slice, Sem.run_bind, run_underlying (slQ_spec ht), Result.andThen, Option.map_none, h3, run_sizeOf hsz, Sem.run_pure]
end
end Go.X
/- The engine: the operations that make or write memory; calls. -/
set_option linter.unusedVariables false
set_option linter.unusedSimpArgs false
namespace Go.X
open Go Go.RowKit

def one : Value → Bool
  | .agg _ | .tuple _ => false
  | _ => true

def row (T : TypeId) (l : List Value) : Obj := .cells l.toArray T (0, 0)

def putE (d : Option Nat) (v : Value) (E : Env) : Env := match d with | some d => (d, v) :: E | none => E

theorem Has.putE {N : Nat} {E : Env} {a : Act} (h : Has N E a) {d : Option Nat} (hd : ∀ k, d = some k → k < N) (v : Value) : Has N (X.putE d v E) (a.put d v) := by
  cases d with
  | none => exact h
  | some d => exact h.put (hd d rfl) v

def ltN (d : Option Nat) (N : Nat) : Bool := match d with | some d => Nat.blt d N | none => true
theorem ltN_spec {d : Option Nat} {N : Nat} (h : ltN d N = true) : ∀ k, d = some k → k < N := by
  intro k hk; subst hk; simpa [ltN] using h

/-- The operation, from every frame of E and world of M: what it yields and what the world then holds is as R says. -/
def Does (P : Program) (N : Nat) (z : World) (E : Env) (M : Hp) (o : Oper) (R : Value → Hp → Prop) : Prop :=
  ∀ a w (K : Act → World → Prop) (Q : Exit → Act → World → Prop), Has N E a → Own z w M → (∀ v M' w', R v M' → Own z w' M' → K (a.put o.dst v) w') → o.wp P a w K Q

section
variable {P : Program} {N : Nat} {z : World} {Q : Exit → Act → World → Prop} {E : Env} {M : Hp} {ops : Array Oper} {rest : List Oper} {o : Oper} {R : Value → Hp → Prop}

theorem Val.does {v : Value} (h : Val P N z E M o v) : Does P N z E M o (fun u M' => u = v ∧ M = M') := fun a w K Q ha hw k => by
  simp only [Oper.wp, h a w ha hw, Oper.upon]
  exact k v M w ⟨rfl, rfl⟩ hw

theorem Does.mono {R' : Value → Hp → Prop} (h : Does P N z E M o R) (hr : ∀ v M', R v M' → R' v M') : Does P N z E M o R' := fun a w K Q ha hw k => h a w K Q ha hw fun v M' w' hR ho => k v M' w' (hr v M' hR) ho

theorem TL.does (d : Option Nat) (hd : o.dst = d) (hg : o.guard = none) (hN : ltN d N = true) (h : Does P N z E M o R) (k : ∀ v M', R v M' → TL P N z ops Q rest (putE d v E) M') : TL P N z ops Q (o :: rest) E M :=
  TL.op hg fun a w ha hw => by subst hd; exact h a w _ Q ha hw fun v M' w' hR ho => k v M' hR _ _ (ha.putE (ltN_spec hN) v) ho

theorem TL.doesYes {j dj : Nat} {want : Bool} (d : Option Nat) (hd : o.dst = d) (hg : o.guard = some (j, want)) (hj : (ops[j]?).bind (·.dst) = some dj) (hM : dj < N) (hb : look E dj = some (.bool want)) (hN : ltN d N = true)
    (h : Does P N z E M o R) (k : ∀ v M', R v M' → TL P N z ops Q rest (putE d v E) M') : TL P N z ops Q (o :: rest) E M :=
  TL.opYes hg hj hM hb fun a w ha hw => by subst hd; exact h a w _ Q ha hw fun v M' w' hR ho => k v M' hR _ _ (ha.putE (ltN_spec hN) v) ho

theorem TL.valYes {d j dj : Nat} {want : Bool} {v : Value} (hg : o.guard = some (j, want)) (hd : o.dst = some d) (hN : d < N) (hj : (ops[j]?).bind (·.dst) = some dj) (hM : dj < N) (hb : look E dj = some (.bool want))
    (h : Val P N z E M o v) (k : TL P N z ops Q rest ((d, v) :: E) M) : TL P N z ops Q (o :: rest) E M :=
  TL.opYes hg hj hM hb fun a w ha hw => by
    simp only [Oper.wp, h a w ha hw, Oper.upon, hd]
    exact k _ _ (ha.put hN v) hw

section
variable {dst : Option Tmp} {ty : TypeId} {pos : String} {af : Array Edge} {gu : Option (Nat × Bool)} {t yt : TypeId} {x y : Operand}

theorem does_alloc {op : Op} {T : TypeId} {u : Nat → Value} {cs : Array Value} (h : ∀ a w, Has N E a → Own z w M → (execOp a.eval ⟨dst, op, ty, pos, af, gu⟩).run P w = .ok (.value (u w.heap.size)) (w.alloc (.cells cs T))) :
    Does P N z E M ⟨dst, op, ty, pos, af, gu⟩ (fun v M' => ∃ b, v = u b ∧ M' = (b, .cells cs T (0, 0)) :: M) := fun a w K Q ha hw k => by
  simp only [Oper.wp, h a w ha hw, Oper.upon]
  exact k _ _ _ ⟨_, rfl, rfl⟩ (hw.alloc _)

theorem Does.box {T : TypeId} {v : Value} {cs : Array Value} (hx : ev E x = some v) (hc : v.cells = cs) :
    Does P N z E M ⟨dst, .box T x, ty, pos, af, gu⟩ (fun u M' => ∃ b, u = .pointer (some ⟨b, 0, none⟩) ∧ M' = (b, .cells cs T (0, 0)) :: M) :=
  does_alloc (u := fun b => .pointer (some ⟨b, 0, none⟩)) fun a w ha hw => by
    subst hc
    simp [execOp, ha.ev hx, Instr.box, newVar, newRow, Result.andThen, newObj, Sem.run]

theorem Does.alloc {T : TypeId} {v : Value} {cs : Array Value} (hz : zerQ P T = some v) (hc : v.cells = cs) :
    Does P N z E M ⟨dst, .alloc T, ty, pos, af, gu⟩ (fun u M' => ∃ b, u = .pointer (some ⟨b, 0, none⟩) ∧ M' = (b, .cells cs T (0, 0)) :: M) :=
  does_alloc (u := fun b => .pointer (some ⟨b, 0, none⟩)) fun a w ha hw => by
    subst hc
    simp [execOp, Instr.alloc, run_zero hz, newVar, newRow, Result.andThen, newObj, Sem.run]

/-- cells written one by one -/
def splice (cs : Array Value) (off : Nat) : List Value → Array Value
  | [] => cs
  | v :: r => splice (cs.setIfInBounds off v) (off + 1) r

theorem run_storeCells (b : Nat) (T : TypeId) : ∀ (vs : List Value) (off i : Nat) (cs : Array Value) (w : World), w.heap[b]? = some (.cells cs T (0, 0)) → off + i + vs.length ≤ cs.size → (∀ v ∈ vs, one v = true) →
    ∃ w', (storeCells ⟨b, off, none⟩ vs i).run P w = .ok () w' ∧ w'.os = w.os ∧ w'.tape = w.tape ∧ w'.output = w.output ∧ w'.heap[b]? = some (.cells (splice cs (off + i) vs) T (0, 0)) ∧ ∀ k, k ≠ b → w'.heap[k]? = w.heap[k]? := by
  intro vs
  induction vs with
  | nil => intro off i cs w hb _ _; exact ⟨w, rfl, rfl, rfl, rfl, hb, fun _ _ => rfl⟩
  | cons v r ih =>
    intro off i cs w hb hl h1
    have hc : w.cell? ⟨b, off + i, none⟩ = some (cs[off + i]'(by simp at hl; omega)) := by rw [cell_of hb, Array.getElem?_eq_getElem]
    have hf : w.frozen? ⟨b, off + i, none⟩ = false := frozen_of_row w b _ cs T hb
    have hset := heap_setCell_same w b (off + i) cs T v hb
    obtain ⟨w', hr, e1, e2, e3, hb', hk⟩ := ih off (i + 1) (cs.setIfInBounds (off + i) v) (w.setCell ⟨b, off + i, none⟩ v) hset (by simp at hl ⊢; omega) (fun u hu => h1 u (List.mem_cons_of_mem _ hu))
    refine ⟨w', ?_, e1, e2, e3, ?_, fun k hne => (hk k hne).trans (heap_setCell_other w _ k v (by simpa using hne))⟩
    · have hv := h1 v (List.mem_cons_self ..)
      have hst : (Go.store ((⟨b, off, none⟩ : Addr).add i) v).run P w = .ok () (w.setCell ⟨b, off + i, none⟩ v) := by
        rw [addr_add]
        cases v <;> simp [one] at hv <;> simp [Go.store, Sem.run, hc, hf]
      simp only [storeCells, Sem.run_bind, hst, Result.andThen]
      exact hr
    · simpa [splice, Nat.add_assoc] using hb'

theorem Does.store {v : Value} {b off n i : Nat} {cs cs' : Array Value} {T : TypeId} {M' : Hp} (hx : ev E x = some (.pointer (some ⟨b, off, none⟩))) (hy : ev E y = some v) (hi : M[i]? = some (b, .cells cs T (0, 0)))
    (hn : sizQ P t = some n) (hs : v.cells.size = n) (h1 : v.cells.toList.all one = true) (hb : off + n ≤ cs.size) (hr : splice cs off v.cells.toList = cs') (hM : M.set i (b, .cells cs' T (0, 0)) = M') :
    Does P N z E M ⟨dst, .store t x y, ty, pos, af, gu⟩ (fun u M'' => u = undef ∧ M'' = M') := fun a w K Q ha hw k => by
  subst hr; subst hM
  obtain ⟨w', hrun, e1, e2, e3, hb', hk⟩ := run_storeCells (P := P) b T v.cells.toList off 0 cs w (hw.at hi) (by simp [hs]; exact hb) (List.all_eq_true.1 h1)
  have : (execOp a.eval ⟨dst, .store t x y, ty, pos, af, gu⟩).run P w = .ok .skip w' := by
    simp [execOp, ha.ev hx, ha.ev hy, Instr.storeAt, Instr.sureAddr, storeVar, run_sizeOf hn, hs, hrun, Result.andThen]
  simp only [Oper.wp, this, Oper.upon]
  exact k undef _ w' ⟨rfl, rfl⟩ (hw.setAt hi e1 e2 e3 hb' hk)

/-- the parts of a literal -/
def evParts (E : Env) : List (Nat × Operand) → Option (List (Nat × Value))
  | [] => some []
  | (i, x) :: r => match ev E x, evParts E r with | some v, some vs => some ((i, v) :: vs) | _, _ => none

theorem evParts_eval {a : Act} (ha : Has N E a) : ∀ (l : List (Nat × Operand)) (r : List (Nat × Value)), evParts E l = some r → l.map (fun p => (p.1, a.eval p.2)) = r := by
  intro l
  induction l with
  | nil => intro r h; simp [evParts] at h; simp [h]
  | cons p l ih =>
    intro r h
    obtain ⟨i, x⟩ := p
    simp only [evParts] at h
    split at h
    · rename_i v vs hv hvs
      cases h
      simp [ha.ev hv, ih _ hvs]
    · cases h

def zfill (zero : Array Value) (n : Nat) : Array Value := (Array.range n).map (zero[· % zero.size]!)

/-- n times the cells of a zero -/
def zrep (zl : List Value) : Nat → List Value
  | 0 => []
  | n + 1 => zl ++ zrep zl n

theorem zrep_len (zl : List Value) (n : Nat) : (zrep zl n).length = n * zl.length := by
  induction n with
  | zero => simp [zrep]
  | succ n ih => simp [zrep, ih, Nat.add_mul]; omega

theorem zrep_get (zl : List Value) : ∀ (n i : Nat), i < n * zl.length → (zrep zl n)[i]? = zl[i % zl.length]? := by
  intro n
  induction n with
  | zero => intro i h; simp at h
  | succ n ih =>
    intro i h
    rw [Nat.add_mul] at h
    by_cases hi : i < zl.length
    · simp only [zrep]
      rw [List.getElem?_append_left hi, Nat.mod_eq_of_lt hi]
    · simp only [zrep]
      rw [List.getElem?_append_right (by omega), ih _ (by omega)]
      congr 1
      rw [Nat.mod_eq_sub_mod (a := i) (by omega)]

theorem zfill_eq (zero : Array Value) (n : Nat) : zfill zero (n * zero.size) = (zrep zero.toList n).toArray := by
  apply Array.ext'
  apply List.ext_getElem?
  intro i
  simp only [zfill, Array.toList_map, Array.toList_range, List.getElem?_map]
  by_cases hi : i < n * zero.size
  · rw [zrep_get _ _ _ (by simpa using hi), List.getElem?_range hi]
    have hpos : 0 < zero.size := by
      rcases Nat.eq_zero_or_pos zero.size with h | h
      · simp [h] at hi
      · exact h
    have hm : i % zero.size < zero.size := Nat.mod_lt _ hpos
    simp only [Option.map_some, Array.length_toList]
    rw [getElem!_pos zero _ hm, List.getElem?_eq_getElem (by simpa using hm)]
    simp
  · rw [List.getElem?_eq_none (by simp; omega), List.getElem?_eq_none (by rw [zrep_len]; simp; omega)]
    rfl

def setRange (cells : List Value) (off : Nat) : List Value → List Value
  | [] => cells
  | c :: r => setRange (cells.set off c) (off + 1) r

/-- 'fill' by lists -/
def fillL (place : Nat → Option (Nat × Nat)) (cells : List Value) : List (Nat × Value) → Option (List Value)
  | [] => some cells
  | (i, v) :: rest =>
    match place i with
    | none => none
    | some (off, size) => bif Nat.beq v.cells.toList.length size && Nat.ble (off + v.cells.toList.length) cells.length then fillL place (setRange cells off v.cells.toList) rest else none

theorem setRange_len (cells : List Value) : ∀ (vs : List Value) (off : Nat) , (setRange cells off vs).length = cells.length := by
  intro vs
  induction vs generalizing cells with
  | nil => intro off; rfl
  | cons c r ih => intro off; simp [setRange, ih]

theorem foldl_setRange : ∀ (vs : List Value) (k off : Nat) (cells : Array Value), (vs.zipIdx k).foldl (fun (cs : Array Value) (x : Value × Nat) => cs.setIfInBounds (off + x.2) x.1) cells = (setRange cells.toList (off + k) vs).toArray := by
  intro vs
  induction vs with
  | nil => intro k off cells; simp [setRange]
  | cons c r ih =>
    intro k off cells
    simp only [List.zipIdx_cons, List.foldl_cons, setRange]
    rw [ih]
    simp [Nat.add_assoc]

theorem fill_eq (place : Nat → Option (Nat × Nat)) : ∀ (parts : List (Nat × Value)) (cells r : List Value), fillL place cells parts = some r → Instr.fill place cells.toArray parts = some r.toArray := by
  intro parts
  induction parts with
  | nil => intro cells r h; simp [fillL] at h; subst h; rfl
  | cons p rest ih =>
    intro cells r h
    obtain ⟨i, v⟩ := p
    simp only [fillL] at h
    simp only [Instr.fill]
    split at h
    · cases h
    · rename_i off size hp
      simp only [hp]
      have hc : (Nat.beq v.cells.toList.length size && Nat.ble (off + v.cells.toList.length) cells.length) = true := by
        cases hb : (Nat.beq v.cells.toList.length size && Nat.ble (off + v.cells.toList.length) cells.length) with
        | true => rfl
        | false => rw [hb] at h; cases h
      rw [hc] at h
      obtain ⟨hc1, hc2⟩ := (Bool.and_eq_true _ _ ▸ hc : _ ∧ _)
      replace hc1 := Nat.eq_of_beq_eq_true hc1
      replace hc2 := Nat.le_of_ble_eq_true hc2
      simp only [Array.length_toList] at hc1 hc2
      have hcond : ¬ ((decide (v.cells.size ≠ size) || decide (off + v.cells.size > cells.toArray.size)) = true) := by simp; omega
      rw [if_neg hcond]
      have := foldl_setRange v.cells.toList 0 off cells.toArray
      rw [← Array.foldl_toList, Array.toList_zipIdx]
      rw [this]
      exact ih _ _ (by simpa using h)

theorem Does.buildSlice {e len sz : Nat} {zv : Value} {parts : List (Nat × Operand)} {pv : List (Nat × Value)} {cs : List Value} (ht : slQ P t = some e) (hsz : sizQ P e = some sz) (hz : zerQ P e = some zv) (hl : len * sz ≤ 16777216) (h0 : len * sz ≠ 0)
    (hzs : zv.cells.size = sz) (hp : evParts E parts = some pv) (hf : fillL (fun i => some (i * sz, sz)) (zrep zv.cells.toList len) pv = some cs) :
    Does P N z E M ⟨dst, .buildSlice t len parts.toArray, ty, pos, af, gu⟩ (fun u M' => ∃ b, u = .slice (some ⟨b, 0, none⟩) len len ∧ M' = (b, .cells cs.toArray e (0, 0)) :: M) :=
  does_alloc (u := fun b => .slice (some ⟨b, 0, none⟩) len len) fun a w ha hw => by
    have hf := fill_eq _ _ _ _ hf
    rw [← zfill_eq, hzs] at hf
    have hpe := evParts_eval ha _ _ hp
    have h1 : ¬ (len * sz > 2 ^ 24) := by omega
    simp only [execOp, Instr.buildSlice, Sem.run_bind, run_underlying (slQ_spec ht), run_sizeOf hsz, Result.andThen, h1, if_false, h0, run_zero hz, Sem.run_pure, List.map_toArray, hpe]
    simp only [zfill] at hf
    simp only [hf, Sem.run_bind, newRow, newObj, Sem.run, Result.andThen]
    simp

theorem Val.build {parts : List (Nat × Operand)} {pv : List (Nat × Value)} {fs : Array Field} {places : Array (Nat × Nat)} {zv : Value} {cs : Array Value} (ht : P.underlying t = some (.struct fs))
    (hpl : ∀ w, (fs.mapM (fun f => do pure (f.offset, ← sizeOf f.type)) : Sem (Array (Nat × Nat))).run P w = .ok places w) (hz : zerQ P t = some zv)
    (hp : evParts E parts = some pv) (hf : Instr.fill (places[·]?) zv.cells pv = some cs) :
    Val P N z E M ⟨dst, .build t parts.toArray, ty, pos, af, gu⟩ (.agg cs) := fun a w ha hw => by
  have hpe := evParts_eval ha _ _ hp
  simp only [execOp, Instr.build, Sem.run_bind, run_underlying ht, hpl, Result.andThen, run_zero hz, Sem.run_pure, List.map_toArray, hpe, hf]

theorem Val.buildA {e n sz : Nat} {parts : List (Nat × Operand)} {pv : List (Nat × Value)} {zv : Value} {cs : List Value} (ht : arQ P t = some (n, e)) (hsz : sizQ P e = some sz) (hz : zerQ P t = some zv)
    (hp : evParts E parts = some pv) (hf : fillL (fun i => some (i * sz, sz)) zv.cells.toList pv = some cs) :
    Val P N z E M ⟨dst, .build t parts.toArray, ty, pos, af, gu⟩ (.agg cs.toArray) := fun a w ha hw => by
  have hf := fill_eq _ _ _ _ hf
  rw [Array.toArray_toList] at hf
  have hpe := evParts_eval ha _ _ hp
  simp only [execOp, Instr.build, Sem.run_bind, run_underlying (arQ_spec ht), run_sizeOf hsz, Result.andThen, run_zero hz, Sem.run_pure, List.map_toArray, hpe, hf]

/-! ### calls -/

def evs (E : Env) : List Operand → Option (List Value)
  | [] => some []
  | x :: r => match ev E x, evs E r with | some v, some vs => some (v :: vs) | _, _ => none

theorem evs_eval {a : Act} (ha : Has N E a) : ∀ (l : List Operand) (r : List Value), evs E l = some r → l.map a.eval = r := by
  intro l
  induction l with
  | nil => intro r h; simp [evs] at h; simp [h]
  | cons p l ih =>
    intro r h
    simp only [evs] at h
    split at h
    · rename_i v vs hv hvs
      cases h
      simp [ha.ev hv, ih _ hvs]
    · cases h

/-- A function with a Go body. -/
def goQ (P : Program) (f : FuncId) : Bool := match P.funcs[f]? with | some fn => fn.name != "runtime.NumGoroutine" && fn.body.isSome | none => false

theorem run_callFunc {f : FuncId} (h : goQ P f = true) (args : Array Value) (w : World) : (callFunc f args).run P w = .ok (.enter f args) w := by
  unfold goQ at h
  split at h
  · rename_i fn hf
    simp at h
    obtain ⟨h1, h2⟩ := h
    have h3 : fn.body.isNone = false := by cases hb : fn.body <;> simp_all
    have h4 : fn.body ≠ none := by intro h; simp [h] at h2
    simp [callFunc, program, Sem.run, hf, h1, h4]
  · cases h

theorem Does.call {f : FuncId} {args : List Operand} {vs : List Value} {at_ : Array TypeId} {c : Operand} {first cap : Array Value} (hc : ev E c = some (.func (.func f) first cap)) (hf : goQ P f = true) (ha0 : evs E args = some vs)
    (h : FnC P f (first ++ vs.toArray ++ cap) M R) : Does P N z E M ⟨dst, .call ⟨.value c, args.toArray, at_⟩, ty, pos, af, gu⟩ R := fun a w K Q ha hw k => by
  have he := evs_eval ha _ _ ha0
  have hrun : (execOp a.eval ⟨dst, .call ⟨.value c, args.toArray, at_⟩, ty, pos, af, gu⟩).run P w = .ok (.enter f (first ++ vs.toArray ++ cap)) w := by
    simp only [execOp, resolve, ha.ev hc, Deferred.ofValue, Sem.run_bind, Sem.run_pure, Result.andThen, invoke, List.map_toArray, he]
    exact run_callFunc hf _ w
  simp only [Oper.wp, hrun, Oper.upon]
  refine (h z w hw).mono ?_
  rintro e w' ⟨v, M', rfl, hR, ho⟩
  exact k v M' w' hR ho
end
end
end Go.X
/- The engine: append, make, conversions between bytes and strings. -/
set_option linter.unusedVariables false
set_option linter.unusedSimpArgs false
namespace Go.X
open Go Go.RowKit

/-- From p on the blocks of M hold ys. -/
def Rd (M : Hp) (p : Addr) (ys : List Value) : Prop := ∃ cs T fz, (p.block, .cells cs T fz) ∈ M ∧ p.spot = none ∧ (cs.toList.drop p.off).take ys.length = ys

theorem Rd.cells {M : Hp} {p : Addr} {ys : List Value} (h : Rd M p ys) {z w : World} (hw : Own z w M) : ∀ j v, ys[j]? = some v → w.cell? (p.add j) = some v := by
  obtain ⟨cs, T, fz, hm, hs, ht⟩ := h
  obtain ⟨b, off, spot⟩ := p
  simp at hs; subst hs
  intro j v hj
  rw [addr_add, cell_of (hw.mem _ _ hm)]
  rw [← ht, List.getElem?_take] at hj
  split at hj
  · simpa using hj
  · cases hj

theorem Rd.mem {M : Hp} {b off : Nat} {l ys : List Value} {T : TypeId} (hm : (b, row T l) ∈ M) (h : (l.drop off).take ys.length = ys) : Rd M ⟨b, off, none⟩ ys := ⟨l.toArray, T, (0, 0), hm, rfl, by simpa using h⟩
theorem Rd.get {M : Hp} {b off i : Nat} {cs : Array Value} {ys : List Value} {T : TypeId} {fz : Nat × Nat} (hi : M[i]? = some (b, .cells cs T fz)) (h : (cs.toList.drop off).take ys.length = ys) : Rd M ⟨b, off, none⟩ ys :=
  ⟨cs, T, fz, List.mem_of_getElem? hi, rfl, h⟩
theorem Rd.mono {M M' : Hp} {p : Addr} {ys : List Value} (h : Rd M p ys) (hM : ∀ x, x ∈ M → x ∈ M') : Rd M' p ys := by
  obtain ⟨cs, T, fz, hm, r⟩ := h
  exact ⟨cs, T, fz, hM _ hm, r⟩
theorem Rd.cons {M : Hp} {p : Addr} {ys : List Value} (x : Nat × Obj) (h : Rd M p ys) : Rd (x :: M) p ys := h.mono fun _ => List.mem_cons_of_mem _
theorem Rd.app {M : Hp} {p : Addr} {ys : List Value} (L : Hp) (h : Rd M p ys) : Rd (L ++ M) p ys := h.mono fun _ hx => List.mem_append_right _ hx
theorem Rd.take {M : Hp} {p : Addr} {ys : List Value} (h : Rd M p ys) (n : Nat) : Rd M p (ys.take n) := by
  obtain ⟨cs, T, fz, hm, hs, ht⟩ := h
  refine ⟨cs, T, fz, hm, hs, ?_⟩
  rw [List.length_take, ← List.take_take, ht]
theorem Rd.drop {M : Hp} {b off : Nat} {ys : List Value} (h : Rd M ⟨b, off, none⟩ ys) (n : Nat) : Rd M ⟨b, off + n, none⟩ (ys.drop n) := by
  obtain ⟨cs, T, fz, hm, hs, ht⟩ := h
  refine ⟨cs, T, fz, hm, hs, ?_⟩
  simp only at ht ⊢
  rw [List.length_drop, ← List.drop_drop, ← List.drop_take, ht]

/-- a slice value that reads ys (elements of one cell each) -/
def RdS (M : Hp) (a : Option Addr) (ys : List Value) : Prop := ys = [] ∨ ∃ p, a = some p ∧ Rd M p ys
theorem RdS.mono {M M' : Hp} {a : Option Addr} {ys : List Value} (h : RdS M a ys) (hM : ∀ x, x ∈ M → x ∈ M') : RdS M' a ys :=
  h.imp id fun ⟨p, hp, hr⟩ => ⟨p, hp, hr.mono hM⟩
theorem RdS.cons {M : Hp} {a : Option Addr} {ys : List Value} (x : Nat × Obj) (h : RdS M a ys) : RdS (x :: M) a ys := h.mono fun _ => List.mem_cons_of_mem _
theorem RdS.app {M : Hp} {a : Option Addr} {ys : List Value} (L : Hp) (h : RdS M a ys) : RdS (L ++ M) a ys := h.mono fun _ hx => List.mem_append_right _ hx
theorem RdS.some {M : Hp} {p : Addr} {ys : List Value} (h : Rd M p ys) : RdS M (some p) ys := .inr ⟨p, rfl, h⟩
theorem RdS.nil (M : Hp) (a : Option Addr) : RdS M a [] := .inl rfl

theorem run_firstCells {M : Hp} {a : Option Addr} {ys : List Value} (h : RdS M a ys) {z w : World} (hw : Own z w M) {P : Program} {sz n c : Nat} (hl : ys.length = n * sz) :
    (Builtin.firstCells sz n (.slice a n c)).run P w = .ok ys.toArray w := by
  rcases h with rfl | ⟨p, rfl, hr⟩
  · have h0 : n * sz = 0 := by simpa using hl.symm
    cases a with
    | none => rfl
    | some p => simp [Builtin.firstCells, h0, loadCells, loadCellsFrom]
  · exact run_firstCells_some w sz n p n c ys hl (hr.cells hw)

section
variable {P : Program} {N : Nat} {z : World} {Q : Exit → Act → World → Prop} {E : Env} {M : Hp} {ops : Array Oper} {rest : List Oper} {o : Oper} {R : Value → Hp → Prop}
variable {dst : Option Tmp} {ty : TypeId} {pos : String} {af : Array Edge} {gu : Option (Nat × Bool)} {t yt : TypeId} {x y : Operand}

/-- What is appended: a slice's elements, a string's bytes, or so many zeros. -/
def Src (P : Program) (M : Hp) (sz : Nat) (zv : Value) (xt : TypeId) (v : Value) (m : Nat) (ys : List Value) : Prop :=
  (∃ a c, v = .slice a m c ∧ (∃ d, P.underlying xt = some (.slice d)) ∧ RdS M a ys) ∨
  (∃ s : ByteArray, v = .string s ∧ P.underlying xt = some .string ∧ m = s.size ∧ ys = (s.data.map fun b => Value.int .u8 b.toNat).toList) ∨
  (∃ k, v = .int k (m : Int) ∧ (∃ k', P.underlying xt = some (.int k')) ∧ (m : Int) ≤ 9223372036854775807 ∧ ys = (zfill zv.cells (m * sz)).toList)

theorem run_grow {t xt e sz by_ m n c : Nat} {zv : Value} {xs ys : List Value} {a : Option Addr} {v : Value} (ht : slQ P t = some e) (hsz : sizQ P e = some sz) (hby : bytQ P e = some by_) (hz : zerQ P e = some zv) (hzs : zv.cells.size = sz)
    (hs : Src P M sz zv xt v m ys) (hyl : ys.length = m * sz) (hxl : xs.length = n * sz) {M2 : Hp} (hx : RdS M2 a xs) (hb : (n + m) * by_ ≤ 140737488355328) (hm : n + m ≤ 9223372036854775807) (hr : c < n + m) {w : World} (hw : Own z w M) (hw2 : Own z w M2) :
    (Builtin.append_ #[t, xt] ty #[.slice a n c, v]).run P w =
      .ok (.slice (some ⟨w.heap.size, 0, none⟩) (n + m) (grownCap w (n + m) c e)) (w.drew.alloc (.cells (xs.toArray ++ ys.toArray ++ Builtin.zeroCells zv.cells (grownCap w (n + m) c e - (n + m))) e)) := by
  obtain ⟨i, hi, his⟩ : ∃ i, P.info? e = some i ∧ i.size = sz := by simpa [sizQ] using hsz
  have hib : i.bytes = by_ := by simpa [bytQ, hi] using hby
  have hiz : i.zero = some zv := by simpa [zerQ, hi] using hz
  have h63 : ¬ (9223372036854775807 < ((n : Int) + (m : Int))) := by omega
  have h48 : ¬ (281474976710656 < Builtin.nextslicecap (n + m) c * i.bytes) := by
    have := growslice_fits (bytes := i.bytes) hr (by rw [hib]; exact hb); omega
  have hr' : ¬ n + m ≤ c := by omega
  have hxd' : (Builtin.firstCells sz n (.slice a n c)).run P w.drew = .ok xs.toArray w.drew := run_firstCells hx hw2.drew hxl
  have hzf : zfill zv.cells 0 = #[] := by simp [zfill]
  rcases hs with ⟨a', c', rfl, ⟨d, hd⟩, hrd⟩ | ⟨s, rfl, hd, rfl, rfl⟩ | ⟨k, rfl, ⟨k', hd⟩, hmi, rfl⟩
  · have hyd' : (Builtin.firstCells sz m (.slice a' m c')).run P w.drew = .ok ys.toArray w.drew := run_firstCells hrd hw.drew hyl
    simp [-List.append_toArray, Builtin.append_, run_underlying (slQ_spec ht), run_underlying hd, run_sizeOf hsz, Builtin.lenOf, Result.andThen, hr', h63, h48, typeInfo, zeroValue, hi, hiz, Question.forced, hxd', hyd', newRow, grownCap]
  · have hyd' : (Builtin.firstCells sz s.size (.string s)).run P w.drew = .ok (s.data.map fun b => Value.int .u8 b.toNat) w.drew := by
      simp only [Builtin.firstCells, Sem.run_pure]
      congr 2
      simp
    simp [-List.append_toArray, Builtin.append_, run_underlying (slQ_spec ht), run_underlying hd, run_sizeOf hsz, Builtin.lenOf, Result.andThen, hr', h63, h48, typeInfo, zeroValue, hi, hiz, Question.forced, hxd', hyd', newRow, grownCap]
    congr 4
    apply Array.ext'; simp
  · have hmw : IntKind.i64.wrap (m : Int) = m := w_i64 (by omega) hmi
    have hby0 : ¬ (281474976710656 < (m : Int) * (i.bytes : Int)) := by
      have h1 : m * i.bytes ≤ (n + m) * i.bytes := Nat.mul_le_mul_right _ (by omega)
      rw [hib] at h1 ⊢
      have : ((m * by_ : Nat) : Int) ≤ 140737488355328 := by omega
      push_cast at this; omega
    by_cases h0 : m * sz = 0
    · have hmn : ¬ ((m : Int) < 0) := by omega
      simp [-List.append_toArray, Builtin.append_, run_underlying (slQ_spec ht), run_underlying hd, run_sizeOf hsz, asInt, asIntOf, hmw, Result.andThen, hr', h63, h48, hby0, h0, hzf, hmn, typeInfo, zeroValue, hi, hiz, Question.forced, hxd', newRow, grownCap]
    · have hmn : ¬ ((m : Int) < 0) := by omega
      have hzz : Builtin.zeroCells zv.cells m = zfill zv.cells (m * sz) := by simp [Builtin.zeroCells, zfill, hzs]
      simp [-List.append_toArray, Builtin.append_, run_underlying (slQ_spec ht), run_underlying hd, run_sizeOf hsz, asInt, asIntOf, hmw, Result.andThen, hr', h63, h48, hby0, h0, typeInfo, zeroValue, hi, hiz, Question.forced, hxd', newRow, grownCap, hzz, hmn]

theorem run_room {t xt e sz m n c b : Nat} {zv : Value} {ys : List Value} {v : Value} {cs : Array Value} {by_ : Nat} (ht : slQ P t = some e) (hsz : sizQ P e = some sz) (hby : bytQ P e = some by_) (hz : zerQ P e = some zv) (hzs : zv.cells.size = sz)
    (hs : Src P M sz zv xt v m ys) (hyl : ys.length = m * sz) (h1 : ∀ u ∈ ys, one u = true) (hb : (n + m) * by_ ≤ 140737488355328) (hr : n + m ≤ c) (hfit : n * sz + ys.length ≤ cs.size) {w : World} (hw : Own z w M) (hg : w.heap[b]? = some (.cells cs e (0, 0))) :
    ∃ w', (Builtin.append_ #[t, xt] ty #[.slice (some ⟨b, 0, none⟩) n c, v]).run P w = .ok (.slice (some ⟨b, 0, none⟩) (n + m) c) w' ∧
      w'.os = w.os ∧ w'.tape = w.tape ∧ w'.output = w.output ∧ w'.heap[b]? = some (.cells (splice cs (n * sz) ys) e (0, 0)) ∧ ∀ k, k ≠ b → w'.heap[k]? = w.heap[k]? := by
  obtain ⟨i, hi, his⟩ : ∃ i, P.info? e = some i ∧ i.size = sz := by simpa [sizQ] using hsz
  have hib : i.bytes = by_ := by simpa [bytQ, hi] using hby
  have hiz : i.zero = some zv := by simpa [zerQ, hi] using hz
  obtain ⟨w', hst, r⟩ := run_storeCells (P := P) b e ys (n * sz) 0 cs w hg (by simpa using hfit) h1
  refine ⟨w', ?_, by simpa using r⟩
  have hadd : (⟨b, 0, none⟩ : Addr).add (n * sz) = ⟨b, n * sz, none⟩ := by rw [addr_add]; simp
  rcases hs with ⟨a', c', rfl, ⟨d, hd⟩, hrd⟩ | ⟨s, rfl, hd, rfl, rfl⟩ | ⟨k, rfl, ⟨k', hd⟩, hmi, rfl⟩
  · have hyd' : (Builtin.firstCells sz m (.slice a' m c')).run P w = .ok ys.toArray w := run_firstCells hrd hw hyl
    simp [Builtin.append_, run_underlying (slQ_spec ht), run_underlying hd, run_sizeOf hsz, Builtin.lenOf, Result.andThen, hr, hyd', hadd, hst]
  · have hyd' : (Builtin.firstCells sz s.size (.string s)).run P w = .ok (s.data.map fun b => Value.int .u8 b.toNat) w := by
      simp only [Builtin.firstCells, Sem.run_pure]
      congr 2
      simp
    simp only [Array.toList_map] at hst
    simp [Builtin.append_, run_underlying (slQ_spec ht), run_underlying hd, run_sizeOf hsz, Builtin.lenOf, Result.andThen, hr, hyd', hadd, hst]
  · have hmw : IntKind.i64.wrap (m : Int) = m := w_i64 (by omega) hmi
    have hby0 : ¬ (281474976710656 < (m : Int) * (i.bytes : Int)) := by
      have h1 : m * i.bytes ≤ (n + m) * i.bytes := Nat.mul_le_mul_right _ (by omega)
      rw [hib] at h1 ⊢
      have : ((m * by_ : Nat) : Int) ≤ 140737488355328 := by omega
      push_cast at this; omega
    by_cases h0 : m * sz = 0
    · have hmn : ¬ ((m : Int) < 0) := by omega
      have hz0 : zfill zv.cells (m * sz) = #[] := by rw [h0]; simp [zfill]
      rw [hz0] at hst
      simp only [Array.toList_empty] at hst
      simp [Builtin.append_, run_underlying (slQ_spec ht), run_underlying hd, run_sizeOf hsz, asInt, asIntOf, hmw, Result.andThen, hr, hby0, h0, hmn, typeInfo, hi, hadd, hst]
    · have hmn : ¬ ((m : Int) < 0) := by omega
      have hzz : Builtin.zeroCells zv.cells m = zfill zv.cells (m * sz) := by simp [Builtin.zeroCells, zfill, hzs]
      simp [Builtin.append_, run_underlying (slQ_spec ht), run_underlying hd, run_sizeOf hsz, asInt, asIntOf, hmw, Result.andThen, hr, hby0, h0, typeInfo, zeroValue, hi, hiz, hadd, hzz, hst, hmn]

theorem splice_list : ∀ (ys : List Value) (off : Nat) (cs : Array Value), off + ys.length ≤ cs.size → (splice cs off ys).toList = cs.toList.take off ++ ys ++ cs.toList.drop (off + ys.length) := by
  intro ys
  induction ys with
  | nil => intro off cs _; simp [splice]
  | cons v r ih =>
    intro off cs h
    simp only [List.length_cons] at h
    rw [splice, ih _ _ (by simp; omega)]
    have hlt : off < cs.toList.length := by simp; omega
    have e1 : (cs.setIfInBounds off v).toList = cs.toList.take off ++ v :: cs.toList.drop (off + 1) := by
      rw [Array.toList_setIfInBounds, List.set_eq_take_append_cons_drop, if_pos hlt]
    have hl : (cs.toList.take off).length = off := by simp; omega
    rw [e1]
    rw [List.take_append, List.drop_append, hl]
    have a1 : off + 1 - off = 1 := by omega
    have a2 : off + 1 + r.length - off = r.length + 1 := by omega
    rw [a1, a2, List.take_of_length_le (by omega : (cs.toList.take off).length ≤ off + 1), List.drop_eq_nil_of_le (by omega : (cs.toList.take off).length ≤ off + 1 + r.length)]
    simp only [List.take_succ_cons, List.take_zero, List.drop_succ_cons, List.drop_drop, List.nil_append, List.length_cons, List.append_assoc, List.cons_append]
    congr 4
    omega

/-- append to a slice of one's own, whose row starts at a block's head. -/
theorem Does.append {s : Operand} {xt e sz by_ m n c i b : Nat} {zv v : Value} {xs sp ys : List Value} (hs : ev E s = some (.slice (some ⟨b, 0, none⟩) n c)) (hx : ev E x = some v)
    (ht : slQ P t = some e) (hsz : sizQ P e = some sz) (hby : bytQ P e = some by_) (hz : zerQ P e = some zv) (hzs : zv.cells.size = sz)
    (hi : M[i]? = some (b, row e (xs ++ sp))) (hxl : xs.length = n * sz) (hcl : xs.length + sp.length = c * sz) (hsrc : Src P M sz zv xt v m ys) (hyl : ys.length = m * sz) (h1 : ∀ u ∈ ys, one u = true)
    (hb : (n + m) * by_ ≤ 140737488355328) (hm : n + m ≤ 9223372036854775807) :
    Does P N z E M ⟨dst, .call ⟨.builtin .append, #[s, x], #[t, xt]⟩, ty, pos, af, gu⟩
      (fun u M' => ∃ b' sp' c', u = .slice (some ⟨b', 0, none⟩) (n + m) c' ∧ (xs ++ ys).length + sp'.length = c' * sz ∧ M' = (b', row e (xs ++ ys ++ sp')) :: M.eraseIdx i) := fun a w K Q ha hw k => by
  have hgb := hw.at hi
  have hunf : ∀ r : Result Value, (Builtin.append_ #[t, xt] ty #[.slice (some ⟨b, 0, none⟩) n c, v]).run P w = r →
      (execOp a.eval ⟨dst, .call ⟨.builtin .append, #[s, x], #[t, xt]⟩, ty, pos, af, gu⟩).run P w = r.andThen fun v w => .ok (.value v) w := fun r hr => by
    simp [execOp, resolve, invoke, builtin, ha.ev hs, ha.ev hx, hr]
  by_cases hr : n + m ≤ c
  · have hmul : (n + m) * sz ≤ c * sz := Nat.mul_le_mul_right _ hr
    rw [Nat.add_mul] at hmul
    obtain ⟨w', hrun, e1, e2, e3, hb', hk⟩ := run_room (ty := ty) ht hsz hby hz hzs hsrc hyl h1 hb hr (cs := (xs ++ sp).toArray) (by simp; omega) hw hgb
    simp only [Oper.wp, hunf _ hrun, Result.andThen, Oper.upon]
    refine k _ _ w' ⟨b, sp.drop ys.length, c, rfl, by simp; omega, rfl⟩ ?_
    refine (hw.front i hi).setFront e1 e2 e3 ?_ hk
    rw [hb']
    show some (Obj.cells _ e (0, 0)) = some (Obj.cells _ e (0, 0))
    congr 2
    apply Array.ext'
    rw [splice_list _ _ _ (by simp; omega)]
    simp [← hxl, List.append_assoc]
  · have hrd : RdS M (some ⟨b, 0, none⟩) xs := .some (Rd.mem (T := e) (l := xs ++ sp) (List.mem_of_getElem? hi) (by simp))
    have hrun := run_grow (ty := ty) (n := n) (c := c) ht hsz hby hz hzs hsrc hyl hxl hrd hb hm (by omega) hw hw
    simp only [Oper.wp, hunf _ hrun, Result.andThen, Oper.upon]
    refine k _ _ _ ⟨w.heap.size, (Builtin.zeroCells zv.cells (grownCap w (n + m) c e - (n + m))).toList, grownCap w (n + m) c e, rfl, ?_, rfl⟩ ?_
    · have := grownCap_ge w (n + m) c e
      simp only [List.length_append, Array.length_toList, size_zeroCells, hzs, hxl, hyl, ← Nat.add_mul]
      congr 1; omega
    · have h := hw.drew.alloc (.cells (xs.toArray ++ ys.toArray ++ Builtin.zeroCells zv.cells (grownCap w (n + m) c e - (n + m))) e)
      have he : Own z (w.drew.alloc (.cells (xs.toArray ++ ys.toArray ++ Builtin.zeroCells zv.cells (grownCap w (n + m) c e - (n + m))) e)) ((w.heap.size, .cells (xs.toArray ++ ys.toArray ++ Builtin.zeroCells zv.cells (grownCap w (n + m) c e - (n + m))) e) :: M.eraseIdx i) :=
        h.sublist ((List.eraseIdx_sublist M i).cons_cons _)
      have hrow : row e (xs ++ ys ++ (Builtin.zeroCells zv.cells (grownCap w (n + m) c e - (n + m))).toList) = .cells (xs.toArray ++ ys.toArray ++ Builtin.zeroCells zv.cells (grownCap w (n + m) c e - (n + m))) e := by
        simp only [row]
        congr 1
        apply Array.ext'
        simp
      rw [hrow]
      exact he

/-- append to nil. -/
theorem Does.appendNil {s : Operand} {xt e sz by_ m : Nat} {zv v : Value} {ys : List Value} (hs : ev E s = some (.slice none 0 0)) (hx : ev E x = some v)
    (ht : slQ P t = some e) (hsz : sizQ P e = some sz) (hby : bytQ P e = some by_) (hz : zerQ P e = some zv) (hzs : zv.cells.size = sz)
    (hsrc : Src P M sz zv xt v m ys) (hyl : ys.length = m * sz) (hm0 : 0 < m) (hb : m * by_ ≤ 140737488355328) (hm : m ≤ 9223372036854775807) :
    Does P N z E M ⟨dst, .call ⟨.builtin .append, #[s, x], #[t, xt]⟩, ty, pos, af, gu⟩
      (fun u M' => ∃ b' sp' c', u = .slice (some ⟨b', 0, none⟩) m c' ∧ ys.length + sp'.length = c' * sz ∧ M' = (b', row e (ys ++ sp')) :: M) := fun a w K Q ha hw k => by
  have hrun := run_grow (ty := ty) (xs := []) (a := none) (n := 0) (c := 0) ht hsz hby hz hzs hsrc hyl (by simp) (.nil M _) (by simpa using hb) (by simpa using hm) (by simpa using hm0) hw hw
  have hex : (execOp a.eval ⟨dst, .call ⟨.builtin .append, #[s, x], #[t, xt]⟩, ty, pos, af, gu⟩).run P w = .ok (.value (.slice (some ⟨w.heap.size, 0, none⟩) (0 + m) (grownCap w (0 + m) 0 e))) (w.drew.alloc (.cells ([].toArray ++ ys.toArray ++ Builtin.zeroCells zv.cells (grownCap w (0 + m) 0 e - (0 + m))) e)) := by
    simp only [execOp, resolve, invoke, builtin, Sem.run_bind, Sem.run_pure, Result.andThen, List.map_toArray, List.map_cons, List.map_nil, ha.ev hs, ha.ev hx, hrun]
  simp only [Oper.wp, hex, Oper.upon]
  refine k _ _ _ ⟨w.heap.size, (Builtin.zeroCells zv.cells (grownCap w (0 + m) 0 e - (0 + m))).toList, grownCap w (0 + m) 0 e, by simp, ?_, rfl⟩ ?_
  · have := grownCap_ge w (0 + m) 0 e
    simp only [Array.length_toList, size_zeroCells, hzs, hyl, ← Nat.add_mul]
    congr 1; omega
  · have h := hw.drew.alloc (.cells ([].toArray ++ ys.toArray ++ Builtin.zeroCells zv.cells (grownCap w (0 + m) 0 e - (0 + m))) e)
    have hrow : row e (ys ++ (Builtin.zeroCells zv.cells (grownCap w (0 + m) 0 e - (0 + m))).toList) = .cells ([].toArray ++ ys.toArray ++ Builtin.zeroCells zv.cells (grownCap w (0 + m) 0 e - (0 + m))) e := by
      simp only [row]
      congr 1
      apply Array.ext'
      simp
    rw [hrow]
    exact h
end
end Go.X
/- The engine: regions that draw their order. -/
set_option linter.unusedVariables false
set_option linter.unusedSimpArgs false
namespace Go.X
open Go Go.RowKit

section
variable {P : Program} {N : Nat} {z : World} {Q : Exit → Act → World → Prop} {E : Env} {M Mro : Hp} {ops : Array Oper} {fuel : Nat} {listed listed' : Array Bool}

/-- Whatever order is drawn from here on; Mro: blocks that nobody in the region writes. -/
def TA (P : Program) (N : Nat) (z : World) (ops : Array Oper) (Q : Exit → Act → World → Prop) (Mro : Hp) (fuel : Nat) (listed : Array Bool) (E : Env) (M : Hp) : Prop :=
  ∀ a w, Has N E a → Own z w M → wpAnyH P .any ops (NoPanic Q) (fun w => Own z w Mro) fuel listed a w

theorem TC.draw {id : Nat} (Mro : Hp) (hm : P.follows .mixedOrders = true) (h : TA P N z ops Q Mro ops.size (Array.replicate ops.size false) E M) : TC P N z Q (.region id ops true) E M :=
  fun a w ha hw => wp_region_noPanic (wp_region_held hm (h a _ ha (hw.drawn _)))

theorem TA.heap {M' : Hp} (hM : ∀ w, Own z w M → Own z w M') (h : TA P N z ops Q Mro fuel listed E M') : TA P N z ops Q Mro fuel listed E M := fun a w ha hw => h a w ha (hM w hw)
theorem TA.env {E' : Env} (hE : Sub E' E) (h : TA P N z ops Q Mro fuel listed E' M) : TA P N z ops Q Mro fuel listed E M := fun a w ha hw => h a w (ha.sub hE) hw
theorem TA.gen {d : Nat} {b : Bool} (k : ∀ g, g = b → TA P N z ops Q Mro fuel listed ((d, .bool g) :: E) M) : TA P N z ops Q Mro fuel listed ((d, .bool b) :: E) M := k b rfl

/-- An operation that only reads what nobody writes is taken first. -/
theorem TA.take (i : Nat) {o : Oper} {d : Nat} {v : Value} (hi : ops[i]? = some o) (hg : o.guard = none) (hd : o.dst = some d) (hN : d < N)
    (hs : Region.noSelect ops = true) (hf : Region.free .any ops listed i = true) (hr : (Region.ready .any ops listed).contains i = true) (hl : listed.setIfInBounds i true = listed')
    (hro : ∀ w, Own z w M → Own z w Mro) (h : Val P N z E Mro o v) (k : TA P N z ops Q Mro fuel listed' ((d, v) :: E) M) : TA P N z ops Q Mro (fuel + 1) listed E M := fun a w ha hw => by
  refine wpAnyH_take (v := v) hi hs hf hr (fun c a w h => h) (.inl ⟨by simp [Region.wanted, hg], fun w hw => h a w ha hw⟩) (hro w hw) ?_
  rw [hl, hd]
  exact k _ w (ha.put hN v) hw

theorem TA.gtake (i : Nat) {o : Oper} {d j dj : Nat} {want g : Bool} {v : Value} (hi : ops[i]? = some o) (hg : o.guard = some (j, want)) (hd : o.dst = some d) (hN : d < N) (hj : (ops[j]?).bind (·.dst) = some dj) (hM : dj < N) (hb : look E dj = some (.bool g))
    (hs : Region.noSelect ops = true) (hf : Region.free .any ops listed i = true) (hr : (Region.ready .any ops listed).contains i = true) (hl : listed.setIfInBounds i true = listed')
    (hro : ∀ w, Own z w M → Own z w Mro) (h : g = want → Val P N z E Mro o v) (k : TA P N z ops Q Mro fuel listed' ((d, gd g want v) :: E) M) : TA P N z ops Q Mro (fuel + 1) listed E M := fun a w ha hw => by
  refine wpAnyH_take (v := gd g want v) hi hs hf hr (fun c a w h => h) ?_ (hro w hw) ?_
  · by_cases e : g = want
    · subst e
      refine .inl ⟨wanted_yes hg ha hj hM hb, fun w hw => ?_⟩
      have : gd g g v = v := by simp [gd]
      rw [this]
      exact h rfl a w ha hw
    · refine .inr ⟨?_, by cases g <;> cases want <;> simp_all [gd]⟩
      simp only [Region.wanted, hg, yielded_look ha hM hj hb]
      cases g <;> cases want <;> simp at e ⊢
  · rw [hl, hd]
    exact k _ w (ha.put hN _) hw

theorem TA.takeYes (i : Nat) {o : Oper} {d j dj : Nat} {want : Bool} {v : Value} (hi : ops[i]? = some o) (hg : o.guard = some (j, want)) (hd : o.dst = some d) (hN : d < N) (hj : (ops[j]?).bind (·.dst) = some dj) (hM : dj < N) (hb : look E dj = some (.bool want))
    (hs : Region.noSelect ops = true) (hf : Region.free .any ops listed i = true) (hr : (Region.ready .any ops listed).contains i = true) (hl : listed.setIfInBounds i true = listed')
    (hro : ∀ w, Own z w M → Own z w Mro) (h : Val P N z E Mro o v) (k : TA P N z ops Q Mro fuel listed' ((d, v) :: E) M) : TA P N z ops Q Mro (fuel + 1) listed E M := fun a w ha hw => by
  refine wpAnyH_take (v := v) hi hs hf hr (fun c a w h => h) (.inl ⟨wanted_yes hg ha hj hM hb, fun w hw => h a w ha hw⟩) (hro w hw) ?_
  rw [hl, hd]
  exact k _ w (ha.put hN v) hw

theorem TA.takePass (i : Nat) {o : Oper} {d j dj : Nat} {want b : Bool} (hi : ops[i]? = some o) (hg : o.guard = some (j, want)) (hd : o.dst = some d) (hN : d < N) (hj : (ops[j]?).bind (·.dst) = some dj) (hM : dj < N) (hb : look E dj = some (.bool b)) (hne : (b == want) = false)
    (hs : Region.noSelect ops = true) (hf : Region.free .any ops listed i = true) (hr : (Region.ready .any ops listed).contains i = true) (hl : listed.setIfInBounds i true = listed')
    (hro : ∀ w, Own z w M → Own z w Mro) (k : TA P N z ops Q Mro fuel listed' ((d, undef) :: E) M) : TA P N z ops Q Mro (fuel + 1) listed E M := fun a w ha hw => by
  refine wpAnyH_take (v := undef) hi hs hf hr (fun c a w h => h) (.inr ⟨?_, rfl⟩) (hro w hw) ?_
  · simp only [Region.wanted, hg, yielded_look ha hM hj hb]
    cases b <;> cases want <;> simp at hne ⊢
  · rw [hl, hd]
    exact k _ w (ha.put hN _) hw

theorem TA.takePassU (i : Nat) {o : Oper} {d j dj : Nat} {want : Bool} (hi : ops[i]? = some o) (hg : o.guard = some (j, want)) (hd : o.dst = some d) (hN : d < N) (hj : (ops[j]?).bind (·.dst) = some dj) (hM : dj < N) (hb : look E dj = some undef)
    (hs : Region.noSelect ops = true) (hf : Region.free .any ops listed i = true) (hr : (Region.ready .any ops listed).contains i = true) (hl : listed.setIfInBounds i true = listed')
    (hro : ∀ w, Own z w M → Own z w Mro) (k : TA P N z ops Q Mro fuel listed' ((d, undef) :: E) M) : TA P N z ops Q Mro (fuel + 1) listed E M := fun a w ha hw => by
  refine wpAnyH_take (v := undef) hi hs hf hr (fun c a w h => h) (.inr ⟨?_, rfl⟩) (hro w hw) ?_
  · simp only [Region.wanted, hg, yielded_undef ha hM hj hb]
    rfl
  · rw [hl, hd]
    exact k _ w (ha.put hN _) hw

/-- What is owed of the operation that comes up now. -/
def TO (P : Program) (N : Nat) (z : World) (ops : Array Oper) (Q : Exit → Act → World → Prop) (Mro : Hp) (fuel : Nat) (listed : Array Bool) (i : Nat) (E : Env) (M : Hp) : Prop :=
  ∀ a w, Has N E a → Own z w M → wpOp P ops (NoPanic Q) i (fun a' w' => Own z w' Mro ∧ wpAnyH P .any ops (NoPanic Q) (fun w => Own z w Mro) fuel (listed.setIfInBounds i true) a' w') a w

theorem TA.all {rs : List Nat} (hr : Region.ready .any ops listed = rs) (hne : rs ≠ []) (h : ∀ i ∈ rs, TO P N z ops Q Mro fuel listed i E M) : TA P N z ops Q Mro (fuel + 1) listed E M :=
  fun a w ha hw => wpAnyH_all hr hne fun i hi => h i hi a w ha hw

theorem TA.one (i : Nat) (hr : Region.ready .any ops listed = [i]) (h : TO P N z ops Q Mro fuel listed i E M) : TA P N z ops Q Mro (fuel + 1) listed E M :=
  TA.all hr (by simp) fun j hj => by simp at hj; subst hj; exact h

theorem TA.two (i j : Nat) (hr : Region.ready .any ops listed = [i, j]) (h : TO P N z ops Q Mro fuel listed i E M) (h' : TO P N z ops Q Mro fuel listed j E M) : TA P N z ops Q Mro (fuel + 1) listed E M :=
  TA.all hr (by simp) fun k hk => by
    simp at hk
    rcases hk with rfl | rfl
    · exact h
    · exact h'

theorem TA.three (i j l : Nat) (hr : Region.ready .any ops listed = [i, j, l]) (h : TO P N z ops Q Mro fuel listed i E M) (h' : TO P N z ops Q Mro fuel listed j E M) (h'' : TO P N z ops Q Mro fuel listed l E M) : TA P N z ops Q Mro (fuel + 1) listed E M :=
  TA.all hr (by simp) fun k hk => by
    simp at hk
    rcases hk with rfl | rfl | rfl
    · exact h
    · exact h'
    · exact h''

theorem TO.does {i : Nat} {o : Oper} {R : Value → Hp → Prop} (d : Option Nat) (hi : ops[i]? = some o) (hd : o.dst = d) (hg : o.guard = none) (hN : ltN d N = true) (hl : listed.setIfInBounds i true = listed') (h : Does P N z E M o R)
    (k : ∀ v M', R v M' → (∀ w, Own z w M' → Own z w Mro) ∧ TA P N z ops Q Mro fuel listed' (putE d v E) M') : TO P N z ops Q Mro fuel listed i E M := fun a w ha hw => by
  subst hl; subst hd
  unfold wpOp
  rw [hi]
  simp only [Region.wanted, hg, if_true]
  refine .inl (h a w _ (NoPanic Q) ha hw fun v M' w' hR ho => ?_)
  obtain ⟨h1, h2⟩ := k v M' hR
  exact ⟨h1 w' ho, h2 _ w' (ha.putE (ltN_spec hN) v) ho⟩

theorem TO.doesYes {i j dj : Nat} {want : Bool} {o : Oper} {R : Value → Hp → Prop} (d : Option Nat) (hi : ops[i]? = some o) (hd : o.dst = d) (hg : o.guard = some (j, want)) (hj : (ops[j]?).bind (·.dst) = some dj) (hM : dj < N) (hb : look E dj = some (.bool want)) (hN : ltN d N = true) (hl : listed.setIfInBounds i true = listed') (h : Does P N z E M o R)
    (k : ∀ v M', R v M' → (∀ w, Own z w M' → Own z w Mro) ∧ TA P N z ops Q Mro fuel listed' (putE d v E) M') : TO P N z ops Q Mro fuel listed i E M := fun a w ha hw => by
  subst hl; subst hd
  unfold wpOp
  rw [hi]
  simp only [wanted_yes hg ha hj hM hb, if_true]
  refine .inl (h a w _ (NoPanic Q) ha hw fun v M' w' hR ho => ?_)
  obtain ⟨h1, h2⟩ := k v M' hR
  exact ⟨h1 w' ho, h2 _ w' (ha.putE (ltN_spec hN) v) ho⟩

theorem TO.pass {i j dj : Nat} {want b : Bool} {o : Oper} (d : Option Nat) (hi : ops[i]? = some o) (hd : o.dst = d) (hg : o.guard = some (j, want)) (hj : (ops[j]?).bind (·.dst) = some dj) (hM : dj < N) (hb : look E dj = some (.bool b)) (hne : (b == want) = false) (hN : ltN d N = true) (hl : listed.setIfInBounds i true = listed')
    (hro : ∀ w, Own z w M → Own z w Mro) (k : TA P N z ops Q Mro fuel listed' (putE d undef E) M) : TO P N z ops Q Mro fuel listed i E M := fun a w ha hw => by
  subst hl; subst hd
  unfold wpOp
  rw [hi]
  have hw' : Region.wanted o (yielded ops a.tmps) = false := by
    simp only [Region.wanted, hg, yielded_look ha hM hj hb]
    cases b <;> cases want <;> simp at hne ⊢
  simp only [hw', Bool.false_eq_true, if_false]
  exact ⟨hro w hw, k _ w (ha.putE (ltN_spec hN) _) hw⟩

theorem TA.done (hr : Region.ready .any ops listed = []) (h : AtX N z Q .normal E M) : TA P N z ops Q Mro fuel listed E M :=
  fun a w ha hw => wpAnyH_done hr (NoPanic.normal (h a w ha hw)) fuel

/-! the world of Own: moving between lists -/
theorem ro_refl {M : Hp} : ∀ w, Own z w M → Own z w M := fun _ h => h
theorem ro_tail {x : Nat × Obj} {M M' : Hp} (h : ∀ w, Own z w M → Own z w M') : ∀ w, Own z w (x :: M) → Own z w M' := fun w hw => h w hw.drop
theorem ro_perm {M M' : Hp} (h : M.Perm M') : ∀ w, Own z w M → Own z w M' := fun w hw => hw.perm h
theorem ro_sub {M M' : Hp} (h : M'.Sublist M) : ∀ w, Own z w M → Own z w M' := fun w hw => hw.sublist h
/-- block i of the list, ahead of what is left -/
theorem ro_pick {M M' : Hp} {x : Nat × Obj} (i : Nat) (hi : M[i]? = some x) (h : (x :: M.eraseIdx i) = M') : ∀ w, Own z w M → Own z w M' := fun w hw => h ▸ hw.front i hi
theorem ro_del {M M' : Hp} (i : Nat) (h : M.eraseIdx i = M') : ∀ w, Own z w M → Own z w M' := fun w hw => h ▸ hw.sublist (List.eraseIdx_sublist M i)
theorem ro_trans {M M' M'' : Hp} (h : ∀ w, Own z w M → Own z w M') (h' : ∀ w, Own z w M' → Own z w M'') : ∀ w, Own z w M → Own z w M'' := fun w hw => h' w (h w hw)
end
end Go.X
/- The engine: what a function hands back, memory among it; struct literals; more forms of the rules. -/
set_option linter.unusedVariables false
set_option linter.unusedSimpArgs false
namespace Go.X
open Go Go.RowKit

section
variable {P : Program} {N : Nat} {z : World} {Q : Exit → Act → World → Prop} {E : Env} {M : Hp} {ops : Array Oper} {rest : List Oper}

def resSem (tmps : Array Value) : ResultVar → Sem Value
  | .tmp t => pure (tmps.getD t undef)
  | .cell a t => do loadVar t (← asAddr (tmps.getD a undef))
theorem results_eq (fn : Func) (tmps : Array Value) : results fn tmps = (do let vs ← fn.results.mapM (resSem tmps); pure (if h : vs.size = 1 then vs[0] else .tuple vs)) := rfl

/-- what one result variable reads -/
def RV (P : Program) (N : Nat) (E : Env) (M : Hp) (r : ResultVar) (v : Value) : Prop :=
  ∀ z a w, Has N E a → Own z w M → (resSem a.tmps r).run P w = .ok v w

theorem RV.tmp {t : Tmp} {v : Value} (h : look E t = some v) : RV P N E M (.tmp t) v := fun z a w ha hw => by
  simp only [resSem, ha.get t v h, Sem.run_pure]

theorem RV.agg {x : Tmp} {t : TypeId} {b off n i : Nat} {cs : Array Value} {vs : List Value} {T : TypeId} {fz : Nat × Nat} (hx : look E x = some (.pointer (some ⟨b, off, none⟩))) (ht : aggQ P t = some true) (hn : sizQ P t = some n)
    (hi : M[i]? = some (b, .cells cs T fz)) (hv : seg cs.toList off n = vs) (hs : vs.length = n) : RV P N E M (.cell x t) (.agg vs.toArray) := fun z a w ha hw => by
  have hv := seg_arr hv
  have hl := run_loadCells_list (P := P) (w := w) ⟨b, off, none⟩ vs (fun j v hj => by
    rw [addr_add, cell_of (hw.at hi)]
    have : vs.toArray[j]? = some v := by simpa using hj
    rw [← hv, Array.getElem?_extract] at this
    split at this
    · exact this
    · cases this)
  simp only [hs] at hl
  simp only [resSem, ha.get x _ hx, asAddr, loadVar, Sem.run_bind, Sem.run_pure, run_isAgg ht, run_sizeOf hn, Result.andThen, if_true, hl]

theorem RV.val {x : Tmp} {t : TypeId} {b off i : Nat} {cs : Array Value} {T : TypeId} {fz : Nat × Nat} {v : Value} (hx : look E x = some (.pointer (some ⟨b, off, none⟩))) (ht : aggQ P t = some false)
    (hi : M[i]? = some (b, .cells cs T fz)) (hv : nth cs.toList off = some v) : RV P N E M (.cell x t) v := fun z a w ha hw => by
  rw [nth_eq, Array.getElem?_toList] at hv
  have hc := (cell_of (off := off) (hw.at hi)).trans hv
  simp [resSem, ha.get' x _ hx, asAddr, loadVar, run_isAgg ht, Result.andThen, hc]

theorem results1 {fn : Func} {r1 : ResultVar} {v1 : Value} (hf : fn.results = #[r1]) (h1 : RV P N E M r1 v1) {a : Act} {w : World} (ha : Has N E a) (hw : Own z w M) : (results fn a.tmps).run P w = .ok v1 w := by
  have e1 := h1 z a w ha hw
  rw [results_eq, hf]
  simp [e1, Result.andThen]

theorem results2 {fn : Func} {r1 r2 : ResultVar} {v1 v2 : Value} (hf : fn.results = #[r1, r2]) (h1 : RV P N E M r1 v1) (h2 : RV P N E M r2 v2) {a : Act} {w : World} (ha : Has N E a) (hw : Own z w M) : (results fn a.tmps).run P w = .ok (.tuple #[v1, v2]) w := by
  have e1 := h1 z a w ha hw
  have e2 := h2 z a w ha hw
  rw [results_eq, hf]
  simp [e1, e2, Result.andThen]

theorem results3 {fn : Func} {r1 r2 r3 : ResultVar} {v1 v2 v3 : Value} (hf : fn.results = #[r1, r2, r3]) (h1 : RV P N E M r1 v1) (h2 : RV P N E M r2 v2) (h3 : RV P N E M r3 v3) {a : Act} {w : World} (ha : Has N E a) (hw : Own z w M) : (results fn a.tmps).run P w = .ok (.tuple #[v1, v2, v3]) w := by
  have e1 := h1 z a w ha hw
  have e2 := h2 z a w ha hw
  have e3 := h3 z a w ha hw
  rw [results_eq, hf]
  simp [e1, e2, e3, Result.andThen]

theorem results4 {fn : Func} {r1 r2 r3 r4 : ResultVar} {v1 v2 v3 v4 : Value} (hf : fn.results = #[r1, r2, r3, r4]) (h1 : RV P N E M r1 v1) (h2 : RV P N E M r2 v2) (h3 : RV P N E M r3 v3) (h4 : RV P N E M r4 v4) {a : Act} {w : World} (ha : Has N E a) (hw : Own z w M) : (results fn a.tmps).run P w = .ok (.tuple #[v1, v2, v3, v4]) w := by
  have e1 := h1 z a w ha hw
  have e2 := h2 z a w ha hw
  have e3 := h3 z a w ha hw
  have e4 := h4 z a w ha hw
  rw [results_eq, hf]
  simp [e1, e2, e3, e4, Result.andThen]

/-- a return, or the body's end -/
theorem TC.ret1 {fn : Func} {R : Value → Hp → Prop} {r1 : ResultVar} {v1 : Value} {M' : Hp} (hQ : ∀ a w, FnQ P fn z R .ret a w → Q .ret a w) (hf : fn.results = #[r1]) (h1 : RV P N E M r1 v1) (hM : ∀ w, Own z w M → Own z w M') (hR : R v1 M') : TC P N z Q .ret E M :=
  fun a w ha hw => wp_ret (hQ a w ⟨ha.defers, _, results1 hf h1 ha hw, _, M', rfl, hR, hM w hw⟩)
theorem TC.ret2 {fn : Func} {R : Value → Hp → Prop} {r1 r2 : ResultVar} {v1 v2 : Value} {M' : Hp} (hQ : ∀ a w, FnQ P fn z R .ret a w → Q .ret a w) (hf : fn.results = #[r1, r2]) (h1 : RV P N E M r1 v1) (h2 : RV P N E M r2 v2) (hM : ∀ w, Own z w M → Own z w M') (hR : R (.tuple #[v1, v2]) M') : TC P N z Q .ret E M :=
  fun a w ha hw => wp_ret (hQ a w ⟨ha.defers, _, results2 hf h1 h2 ha hw, _, M', rfl, hR, hM w hw⟩)
theorem TC.ret3 {fn : Func} {R : Value → Hp → Prop} {r1 r2 r3 : ResultVar} {v1 v2 v3 : Value} {M' : Hp} (hQ : ∀ a w, FnQ P fn z R .ret a w → Q .ret a w) (hf : fn.results = #[r1, r2, r3]) (h1 : RV P N E M r1 v1) (h2 : RV P N E M r2 v2) (h3 : RV P N E M r3 v3) (hM : ∀ w, Own z w M → Own z w M') (hR : R (.tuple #[v1, v2, v3]) M') : TC P N z Q .ret E M :=
  fun a w ha hw => wp_ret (hQ a w ⟨ha.defers, _, results3 hf h1 h2 h3 ha hw, _, M', rfl, hR, hM w hw⟩)
theorem TC.ret4 {fn : Func} {R : Value → Hp → Prop} {r1 r2 r3 r4 : ResultVar} {v1 v2 v3 v4 : Value} {M' : Hp} (hQ : ∀ a w, FnQ P fn z R .ret a w → Q .ret a w) (hf : fn.results = #[r1, r2, r3, r4]) (h1 : RV P N E M r1 v1) (h2 : RV P N E M r2 v2) (h3 : RV P N E M r3 v3) (h4 : RV P N E M r4 v4) (hM : ∀ w, Own z w M → Own z w M') (hR : R (.tuple #[v1, v2, v3, v4]) M') : TC P N z Q .ret E M :=
  fun a w ha hw => wp_ret (hQ a w ⟨ha.defers, _, results4 hf h1 h2 h3 h4 ha hw, _, M', rfl, hR, hM w hw⟩)
theorem AtX.end0 {fn : Func} {R : Value → Hp → Prop} {M' : Hp} (hf : fn.results = #[]) (hM : ∀ w, Own z w M → Own z w M') (hR : R (.tuple #[]) M') : AtX N z (FnQ P fn z R) .normal E M :=
  fun a w ha hw => ⟨ha.defers, .tuple #[], by simp [results, hf], _, M', rfl, hR, hM w hw⟩
theorem TC.ret0 {fn : Func} {R : Value → Hp → Prop} {M' : Hp} (hQ : ∀ a w, FnQ P fn z R .ret a w → Q .ret a w) (hf : fn.results = #[]) (hM : ∀ w, Own z w M → Own z w M') (hR : R (.tuple #[]) M') : TC P N z Q .ret E M :=
  fun a w ha hw => wp_ret (hQ a w ⟨ha.defers, .tuple #[], by simp [results, hf], _, M', rfl, hR, hM w hw⟩)

/-! struct literals -/
def plQ (P : Program) (t : TypeId) : Option (List (Nat × Nat)) :=
  match P.underlying t with
  | some (.struct fs) => fs.toList.mapM fun f => (sizQ P f.type).map fun s => (f.offset, s)
  | _ => none

theorem run_places (l : List Field) : ∀ (r : List (Nat × Nat)), l.mapM (fun f => (sizQ P f.type).map fun s => (f.offset, s)) = some r → ∀ w, (l.mapM (fun f => do pure (f.offset, ← sizeOf f.type)) : Sem (List (Nat × Nat))).run P w = .ok r w := by
  induction l with
  | nil => intro r h w; simp at h; subst h; rfl
  | cons f l ih =>
    intro r h w
    simp only [List.mapM_cons, Option.bind_eq_bind, Option.bind_eq_some_iff, Option.map_eq_some_iff] at h
    obtain ⟨p, ⟨s, hs, rfl⟩, q, hq, hr⟩ := h
    cases hr
    simp [List.mapM_cons, run_sizeOf hs, Result.andThen, ih _ hq]
    have := ih _ hq w
    simp at this
    simp [this, Result.andThen]

section
variable {dst : Option Tmp} {ty : TypeId} {pos : String} {af : Array Edge} {gu : Option (Nat × Bool)} {t yt : TypeId} {x y : Operand}
theorem Val.buildS {parts : List (Nat × Operand)} {pv : List (Nat × Value)} {pl : List (Nat × Nat)} {zv : Value} {cs : List Value} (hpl : plQ P t = some pl) (hz : zerQ P t = some zv)
    (hp : evParts E parts = some pv) (hf : fillL (pl[·]?) zv.cells.toList pv = some cs) :
    Val P N z E M ⟨dst, .build t parts.toArray, ty, pos, af, gu⟩ (.agg cs.toArray) := by
  have hf := fill_eq _ _ _ _ hf
  rw [Array.toArray_toList] at hf
  unfold plQ at hpl
  split at hpl
  · rename_i fs hfs
    refine Val.build (places := pl.toArray) hfs (fun w => ?_) hz hp (by simpa using hf)
    have := run_places fs.toList pl hpl w
    rw [← Array.toArray_toList (xs := fs)]
    simp only [List.mapM_toArray]
    simp only [bind_pure_comp] at this ⊢
    simp [this, Result.andThen]
  · cases hpl

theorem Does.callF {f : FuncId} {args : List Operand} {vs : List Value} {at_ : Array TypeId} {R : Value → Hp → Prop} (hf : goQ P f = true) (ha0 : evs E args = some vs)
    (h : FnC P f vs.toArray M R) : Does P N z E M ⟨dst, .call ⟨.value (.func f), args.toArray, at_⟩, ty, pos, af, gu⟩ R :=
  Does.call (first := #[]) (cap := #[]) (by rfl) hf ha0 (by simpa using h)
end

theorem TC.condN {c : Operand} {x y : Code} {p : Prop} {dp : Decidable p} (hc : ev E c = some (.bool (!decide p))) (h1 : ¬ p → TC P N z Q x E M) (h2 : p → TC P N z Q y E M) : TC P N z Q (.cond c x y) E M :=
  TC.cond hc (fun e => h1 (by simpa using e)) (fun e => h2 (by simpa using e))

theorem TC.condB {c : Operand} {x y : Code} {t : Bool} (hc : ev E c = some (.bool (!t))) (h1 : t = false → TC P N z Q x E M) (h2 : t = true → TC P N z Q y E M) : TC P N z Q (.cond c x y) E M :=
  TC.cond hc (fun e => h1 (by simpa using e)) (fun e => h2 (by simpa using e))
end
end Go.X
namespace Go.X
open Go
section
variable {P : Program} {N : Nat} {z : World} {Q : Exit → Act → World → Prop} {E : Env} {M : Hp} {K : Act → World → Prop}
theorem AtX.blk {id : Nat} (h : AtX N z Q .normal E M) : AtX N z (Exit.inBlock id Q) .normal E M := fun a w ha hw => h a w ha hw
theorem AtX.seqX {id : Nat} (h : AtX N z Q (.exit id) E M) : AtX N z (Exit.then K Q) (.exit id) E M := fun a w ha hw => h a w ha hw
theorem AtX.hit {id : Nat} (h : AtX N z Q .normal E M) : AtX N z (Exit.inBlock id Q) (.exit id) E M := fun a w ha hw => by
  simp only [Exit.inBlock, if_true]; exact h a w ha hw
theorem AtX.miss {id id' : Nat} (hne : (id' == id) = false) (h : AtX N z Q (.exit id') E M) : AtX N z (Exit.inBlock id Q) (.exit id') E M := fun a w ha hw => by
  have : ¬ id' = id := by simpa using hne
  simp only [Exit.inBlock, this, if_false]; exact h a w ha hw
theorem AtX.env {e : Exit} {E' : Env} (hE : Sub E' E) (h : AtX N z Q e E' M) : AtX N z Q e E M := fun a w ha hw => h a w (ha.sub hE) hw
theorem AtX.heap {e : Exit} {M' : Hp} (hM : ∀ w, Own z w M → Own z w M') (h : AtX N z Q e E M') : AtX N z Q e E M := fun a w ha hw => h a w ha (hM w hw)
end
end Go.X
/- The engine: slices of one's own (nil among them), bytes, strings. -/
set_option linter.unusedVariables false
set_option linter.unusedSimpArgs false
namespace Go.X
open Go Go.RowKit

/-- a slice of one's own: nil, or a block, its capacity, what is spare -/
abbrev Sl := Option (Nat × Nat × List Value)
def slA : Sl → Option Addr | none => none | some (b, _, _) => some ⟨b, 0, none⟩
def slC : Sl → Nat | none => 0 | some (_, c, _) => c
def slH (s : Sl) (e : TypeId) (xs : List Value) : Hp := match s with | none => [] | some (b, _, sp) => [(b, row e (xs ++ sp))]
def slOk (s : Sl) (sz n : Nat) (xs : List Value) : Prop := xs.length = n * sz ∧ match s with | none => n = 0 ∧ xs = [] | some (_, c, sp) => xs.length + sp.length = c * sz
/-- its value -/
def slV (s : Sl) (n : Nat) : Value := .slice (slA s) n (slC s)

theorem slOk.len {s : Sl} {sz n : Nat} {xs : List Value} (h : slOk s sz n xs) : xs.length = n * sz := h.1
theorem slOk_nil (sz : Nat) : slOk none sz 0 [] := ⟨by simp, rfl, rfl⟩
theorem slOk.some {s : Sl} {sz n : Nat} {xs : List Value} (h : slOk s sz n xs) (hn : 0 < n) : ∃ b c sp, s = some (b, c, sp) ∧ xs.length + sp.length = c * sz := by
  obtain ⟨_, h2⟩ := h
  cases s with
  | none => simp at h2; omega
  | some x => obtain ⟨b, c, sp⟩ := x; exact ⟨b, c, sp, rfl, h2⟩

theorem slRd {s : Sl} {sz n : Nat} {xs : List Value} {e : TypeId} (h : slOk s sz n xs) {M : Hp} (hm : ∀ x, x ∈ slH s e xs → x ∈ M) : RdS M (slA s) xs := by
  cases s with
  | none => obtain ⟨_, h2⟩ := h; simp at h2; exact .inl h2.2
  | some x =>
    obtain ⟨b, c, sp⟩ := x
    exact .inr ⟨_, rfl, Rd.mem (T := e) (l := xs ++ sp) (hm _ (by simp [slH])) (by simp)⟩

/-- a block's own literal row as such a slice -/
theorem slH_lit (b c : Nat) (e : TypeId) (xs : List Value) (M : Hp) : (b, Obj.cells xs.toArray e (0, 0)) :: M = slH (some (b, c, [])) e xs ++ M := by simp [slH, row]

section
variable {P : Program} {N : Nat} {z : World} {Q : Exit → Act → World → Prop} {E : Env} {M H : Hp} {ops : Array Oper} {rest : List Oper} {o : Oper} {R : Value → Hp → Prop}
variable {dst : Option Tmp} {ty : TypeId} {pos : String} {af : Array Edge} {gu : Option (Nat × Bool)} {t yt : TypeId} {x y : Operand}

theorem Src.mono {M' : Hp} {sz : Nat} {zv : Value} {xt : TypeId} {v : Value} {m : Nat} {ys : List Value} (h : Src P M sz zv xt v m ys) (hm : ∀ x, x ∈ M → x ∈ M') : Src P M' sz zv xt v m ys := by
  rcases h with ⟨a, c, h1, h2, h3⟩ | h | h
  · exact .inl ⟨a, c, h1, h2, h3.mono hm⟩
  · exact .inr (.inl h)
  · exact .inr (.inr h)

/-- append to a slice of one's own, nil or not; H: the heap as it stands, of which one's own slice and M are kept. -/
theorem Does.appendS {s : Operand} {xt e sz by_ m n : Nat} {zv v : Value} {xs ys : List Value} (σ : Sl) (M : Hp) (hH : ∀ w, Own z w H → Own z w (slH σ e xs ++ M))
    (hs : ev E s = some (.slice (slA σ) n (slC σ))) (hx : ev E x = some v)
    (ht : slQ P t = some e) (hsz : sizQ P e = some sz) (hby : bytQ P e = some by_) (hz : zerQ P e = some zv) (hzs : zv.cells.size = sz)
    (hok : slOk σ sz n xs) (hsrc : Src P H sz zv xt v m ys) (hyl : ys.length = m * sz) (h1 : ∀ u ∈ ys, one u = true)
    (hb : (n + m) * by_ ≤ 140737488355328) (hm : n + m ≤ 9223372036854775807) :
    Does P N z E H ⟨dst, .call ⟨.builtin .append, #[s, x], #[t, xt]⟩, ty, pos, af, gu⟩
      (fun u M' => ∃ σ', u = .slice (slA σ') (n + m) (slC σ') ∧ slOk σ' sz (n + m) (xs ++ ys) ∧ M' = slH σ' e (xs ++ ys) ++ M) := fun a w K Q ha hw k => by
  have hunf : ∀ (u : Value) (r : Result Value), ev E s = some u → (Builtin.append_ #[t, xt] ty #[u, v]).run P w = r →
      (execOp a.eval ⟨dst, .call ⟨.builtin .append, #[s, x], #[t, xt]⟩, ty, pos, af, gu⟩).run P w = r.andThen fun v w => .ok (.value v) w := fun u r hu hr => by
    simp [execOp, resolve, invoke, builtin, ha.ev hu, ha.ev hx, hr]
  have hw2 := hH w hw
  have hlen : (xs ++ ys).length = (n + m) * sz := by rw [List.length_append, hok.1, hyl, Nat.add_mul]
  have grown : ∀ (c : Nat), c < n + m → RdS (slH σ e xs ++ M) (slA σ) xs → (Builtin.append_ #[t, xt] ty #[.slice (slA σ) n c, v]).run P w = (Builtin.append_ #[t, xt] ty #[.slice (slA σ) n (slC σ), v]).run P w →
      (Oper.wp P ⟨dst, .call ⟨.builtin .append, #[s, x], #[t, xt]⟩, ty, pos, af, gu⟩ a w K Q) := fun c hc hrd heq => by
    have hrun := run_grow (ty := ty) (n := n) (c := c) ht hsz hby hz hzs hsrc hyl hok.1 hrd hb hm hc hw hw2
    simp only [Oper.wp, hunf _ _ hs (heq.symm.trans hrun), Result.andThen, Oper.upon]
    have hrow : row e (xs ++ ys ++ (Builtin.zeroCells zv.cells (grownCap w (n + m) c e - (n + m))).toList) = .cells (xs.toArray ++ ys.toArray ++ Builtin.zeroCells zv.cells (grownCap w (n + m) c e - (n + m))) e := by
      simp only [row]
      congr 1
      apply Array.ext'
      simp
    refine k _ _ _ ⟨some (w.heap.size, grownCap w (n + m) c e, (Builtin.zeroCells zv.cells (grownCap w (n + m) c e - (n + m))).toList), rfl, ⟨hlen, ?_⟩, rfl⟩ ?_
    · have := grownCap_ge w (n + m) c e
      simp only [hlen, Array.length_toList, size_zeroCells, hzs, ← Nat.add_mul]
      congr 1; omega
    · have h := hw2.drew.alloc (.cells (xs.toArray ++ ys.toArray ++ Builtin.zeroCells zv.cells (grownCap w (n + m) c e - (n + m))) e)
      simp only [slH, List.singleton_append, hrow]
      exact h.sublist ((List.sublist_append_right _ _).cons_cons _)
  cases σ with
  | none =>
    obtain ⟨hn0, hx0⟩ := hok.2
    subst hn0; subst hx0
    by_cases hm0 : m = 0
    · subst hm0
      have hy0 : ys = [] := List.eq_nil_of_length_eq_zero (by simpa using hyl)
      subst hy0
      have hrun : (Builtin.append_ #[t, xt] ty #[.slice none 0 0, v]).run P w = .ok (.slice none 0 0) w := by
        obtain ⟨i, hi, his⟩ : ∃ i, P.info? e = some i ∧ i.size = sz := by simpa [sizQ] using hsz
        rcases hsrc with ⟨a', c', rfl, ⟨d, hd⟩, hrd⟩ | ⟨q, rfl, hd, hq, _⟩ | ⟨k', rfl, ⟨k'', hd⟩, hmi, _⟩
        · have hyd' : (Builtin.firstCells sz 0 (.slice a' 0 c')).run P w = .ok #[] w := run_firstCells hrd hw (by simp)
          simp [Builtin.append_, run_underlying (slQ_spec ht), run_underlying hd, run_sizeOf hsz, Builtin.lenOf, Result.andThen, hyd']
        · simp [Builtin.append_, run_underlying (slQ_spec ht), run_underlying hd, run_sizeOf hsz, Builtin.lenOf, Builtin.firstCells, Result.andThen, ← hq]
        · have hmw : IntKind.i64.wrap (0 : Int) = 0 := w_i64 (by omega) (by omega)
          simp [Builtin.append_, run_underlying (slQ_spec ht), run_underlying hd, run_sizeOf hsz, asInt, asIntOf, hmw, Result.andThen, typeInfo, hi]
      simp only [Oper.wp, hunf _ _ hs hrun, Result.andThen, Oper.upon]
      exact k _ _ w ⟨none, rfl, ⟨by simp, rfl, rfl⟩, rfl⟩ hw2
    · exact grown 0 (by omega) (.inl rfl) rfl
  | some q =>
    obtain ⟨b, c, sp⟩ := q
    have hcl : xs.length + sp.length = c * sz := hok.2
    have hgb : w.heap[b]? = some (row e (xs ++ sp)) := hw2.mem b _ (by simp [slH])
    have hxl := hok.1
    by_cases hr : n + m ≤ c
    · have hmul : (n + m) * sz ≤ c * sz := Nat.mul_le_mul_right _ hr
      rw [Nat.add_mul] at hmul
      obtain ⟨w', hrun, e1, e2, e3, hb', hk⟩ := run_room (ty := ty) ht hsz hby hz hzs hsrc hyl h1 hb hr (cs := (xs ++ sp).toArray) (by simp; omega) hw hgb
      simp only [Oper.wp, hunf _ _ hs hrun, Result.andThen, Oper.upon]
      refine k _ _ w' ⟨some (b, c, sp.drop ys.length), rfl, ⟨hlen, by simp; omega⟩, rfl⟩ ?_
      refine hw2.setFront (b := b) e1 e2 e3 ?_ hk
      rw [hb']
      show some (Obj.cells _ e (0, 0)) = some (Obj.cells _ e (0, 0))
      congr 2
      apply Array.ext'
      rw [splice_list _ _ _ (by simp; omega)]
      simp [← hxl, List.append_assoc]
    · have hrd := slRd hok (M := slH (some (b, c, sp)) e xs ++ M) (fun x hx => List.mem_append_left _ hx)
      exact grown c (by omega) hrd rfl

/-! bytes -/
def bv (l : List UInt8) : List Value := l.map fun c => .int .u8 c.toNat
@[simp] theorem bv_len (l : List UInt8) : (bv l).length = l.length := by simp [bv]
@[simp] theorem bv_nil : bv [] = [] := rfl
theorem bv_append (l m : List UInt8) : bv (l ++ m) = bv l ++ bv m := by simp [bv]
theorem bv_take (l : List UInt8) (n : Nat) : bv (l.take n) = (bv l).take n := by simp [bv, List.map_take]
theorem bv_drop (l : List UInt8) (n : Nat) : bv (l.drop n) = (bv l).drop n := by simp [bv, List.map_drop]
theorem bv_one (l : List UInt8) : ∀ u ∈ bv l, one u = true := by
  intro u hu; obtain ⟨c, _, rfl⟩ := List.mem_map.1 hu; rfl
theorem bv_get {l : List UInt8} {j : Nat} (h : j < l.length) : (bv l)[j]? = some (.int .u8 (l.getD j 0).toNat) := by
  simp [bv, List.getElem?_eq_getElem h, List.getD_eq_getElem?_getD]
theorem bv_inj {l m : List UInt8} (h : bv l = bv m) : l = m := by
  induction l generalizing m with
  | nil => cases m with
    | nil => rfl
    | cons c m => simp [bv] at h
  | cons a l ih => cases m with
    | nil => simp [bv] at h
    | cons c m =>
      simp only [bv, List.map_cons, List.cons.injEq, Value.int.injEq, true_and] at h
      obtain ⟨h1, h2⟩ := h
      rw [ih h2]
      congr 1
      exact UInt8.toNat_inj.1 (by omega)

def b8 (x : Int) : UInt8 := UInt8.ofNat (x % 256).toNat
theorem b8_toNat (x : Int) : ((b8 x).toNat : Int) = x % 256 := by
  simp only [b8, UInt8.toNat_ofNat']
  omega
theorem w_b8 {e : Int} : IntKind.u8.wrap e = ((b8 e).toNat : Int) := by rw [w_u8m, b8_toNat]

/-- a string of bytes -/
def ofL (l : List UInt8) : ByteArray := ⟨l.toArray⟩
@[simp] theorem ofL_toList (l : List UInt8) : (ofL l).data.toList = l := by simp [ofL]
@[simp] theorem ofL_size (l : List UInt8) : (ofL l).size = l.length := by simp [ofL, ByteArray.size]
theorem ba_ofL (s : ByteArray) : ofL s.data.toList = s := by simp [ofL]
theorem toList_eq (s : ByteArray) : s.toList = s.data.toList := ByteArray.toList_eq s
theorem str_beq (s t : ByteArray) : (s.toList == t.toList) = decide (s.data.toList = t.data.toList) := by
  rw [toList_eq, toList_eq]; exact Bool.beq_eq_decide_eq _ _

theorem RdS.get {a : Option Addr} {ys : List Value} (h : RdS M a ys) (hn : 0 < ys.length) : ∃ b o : Nat, a = Option.some (⟨b, o, Option.none⟩ : Addr) ∧ Rd M ⟨b, o, Option.none⟩ ys := by
  rcases h with rfl | ⟨⟨b, o, s⟩, rfl, hr⟩
  · simp at hn
  · obtain ⟨cs, T, fz, h1, h2, h3⟩ := hr
    simp at h2; subst h2
    exact ⟨b, o, rfl, ⟨cs, T, fz, h1, rfl, h3⟩⟩

theorem Rd.at {b o : Nat} {ys : List Value} (h : Rd M ⟨b, o, none⟩ ys) {w : World} (hw : Own z w M) {j : Nat} {v : Value} (hj : ys[j]? = some v) : w.cell? ⟨b, o + j, none⟩ = some v := by
  have := h.cells hw j v hj
  rwa [addr_add] at this

theorem Val.loadRd {b o r j : Nat} {ys : List Value} {v : Value} (hx : ev E x = some (.pointer (some ⟨b, r, none⟩))) (ht : aggQ P t = some false) (hR : Rd M ⟨b, o, none⟩ ys) (hr : r = o + j) (hj : ys[j]? = some v) :
    Val P N z E M ⟨dst, .load t x, ty, pos, af, gu⟩ v := fun a w ha hw => by
  subst hr
  have hc := hR.at hw hj
  simp [execOp, ha.ev hx, Instr.loadAt, Instr.sureAddr, loadVar, run_isAgg ht, Result.andThen, hc]

theorem Val.loadB {b o r : Nat} {l : List UInt8} (j : Nat) (hx : ev E x = some (.pointer (some ⟨b, r, none⟩))) (ht : aggQ P t = some false) (hR : Rd M ⟨b, o, none⟩ (bv l)) (hr : r = o + j) (hj : j < l.length) :
    Val P N z E M ⟨dst, .load t x, ty, pos, af, gu⟩ (.int .u8 (l.getD j 0).toNat) := Val.loadRd hx ht hR hr (bv_get hj)

/-- string(b) -/
theorem Val.b2s {src d e : TypeId} {a : Option Addr} {n c : Nat} {l : List UInt8} (hx : ev E x = some (.slice a n c)) (hs : P.underlying src = some (.slice e)) (he : P.underlying e = some (.int .u8)) (hd : P.underlying d = some .string)
    (hn : n = l.length) (hR : RdS M a (bv l)) : Val P N z E M ⟨dst, .convert src d x, ty, pos, af, gu⟩ (.string (ofL l)) := fun ac w ha hw => by
  subst hn
  have key : (convert src d (.slice a l.length c)).run P w = .ok (.string (ofL l)) w := by
    cases a with
    | none =>
      rcases hR with h | ⟨p, hp, _⟩
      · have : l = [] := by cases l <;> simp [bv] at h ⊢
        subst this
        exact run_convert_bytes_nil w src e hs he _ _ d hd
      · cases hp
    | some p =>
      have hc : ∀ j (hj : j < l.length), w.cell? (p.add j) = some (.int .u8 (l[j].toNat : Int)) := fun j hj => by
        rcases hR with h | ⟨q, hq, hr⟩
        · have : l = [] := by cases l <;> simp [bv] at h ⊢
          subst this; simp at hj
        · cases hq
          exact hr.cells hw j _ (by simp [bv, List.getElem?_eq_getElem hj])
      exact run_convert_bytes_back w src d e p c l hs he hd hc
  simp [execOp, ha.ev hx, key]

theorem Does.buildSlice0 {e sz : Nat} (ht : slQ P t = some e) (hsz : sizQ P e = some sz) :
    Does P N z E M ⟨dst, .buildSlice t 0 #[], ty, pos, af, gu⟩ (fun u M' => ∃ b, u = .slice (some ⟨b, 0, none⟩) 0 0 ∧ M' = (b, .cells #[] e (0, 0)) :: M) :=
  does_alloc (u := fun b => .slice (some ⟨b, 0, none⟩) 0 0) fun a w ha hw => by
    simp [execOp, Instr.buildSlice, run_underlying (slQ_spec ht), run_sizeOf hsz, Result.andThen, Instr.fill, newRow]
    congr 2
    simp [Array.range]

theorem Does.makeSlice {e sz by_ n c : Nat} {k k' : IntKind} {nl nc : Int} {zv : Value} (hx : ev E x = some (.int k nl)) (hy : ev E y = some (.int k' nc)) (ht : slQ P t = some e) (hsz : sizQ P e = some sz) (hby : bytQ P e = some by_) (hz : zerQ P e = some zv)
    (hzs : zv.cells.size = sz) (hl : nl = (n : Int)) (hc : nc = (c : Int)) (hnc : n ≤ c) (hb : by_ * c ≤ 281474976710656) (h63 : c ≤ 9223372036854775807) :
    Does P N z E M ⟨dst, .makeSlice t x y, ty, pos, af, gu⟩ (fun u M' => ∃ b, u = .slice (some ⟨b, 0, none⟩) n c ∧ M' = (b, row e (zrep zv.cells.toList c)) :: M) :=
  does_alloc (u := fun b => .slice (some ⟨b, 0, none⟩) n c) fun a w ha hw => by
    subst hl; subst hc
    have hzf : madeCells zv.cells (c * sz) = (zrep zv.cells.toList c).toArray := by rw [← zfill_eq, hzs]; rfl
    obtain ⟨i, hi, his⟩ : ∃ i, P.info? e = some i ∧ i.size = sz := by simpa [sizQ] using hsz
    have hib : i.bytes = by_ := by simpa [bytQ, hi] using hby
    have hiz : i.zero = some zv := by simpa [zerQ, hi] using hz
    have h := run_make (P := P) w t e i zv (slQ_spec ht) hi hiz k k' n c (by omega) (by omega) (by rw [hib]; omega) (by omega)
    simp only [execOp, ha.ev hx, ha.ev hy, Sem.run_bind, h, Result.andThen, Sem.run_pure, his, Int.toNat_natCast, hzf]

theorem Val.makeFunc {f : Go.Fn} {first cap : List Operand} {vf vc : List Value} (h1 : evs E first = some vf) (h2 : evs E cap = some vc) : Val P N z E M ⟨dst, .makeFunc f first.toArray cap.toArray, ty, pos, af, gu⟩ (.func f vf.toArray vc.toArray) := fun a w ha hw => by
  have e1 := evs_eval ha _ _ h1
  have e2 := evs_eval ha _ _ h2
  simp [execOp, Instr.makeFunc, e1, e2]

/-- s[lo:hi] of a string -/
theorem Val.sliceStr {s : ByteArray} {i j : Nat} {lo hi : Option Operand} {il ih : Int} (hx : ev E x = some (.string s)) (ht : P.underlying t = some .string)
    (hlo : bnd E 0 lo = some il) (hhi : bnd E s.size hi = some ih) (hil : il = (i : Int)) (hih : ih = (j : Int)) (hij : i ≤ j) (hj : j ≤ s.size) :
    Val P N z E M ⟨dst, .slice t x lo hi none, ty, pos, af, gu⟩ (.string (s.extract i j)) := fun a w ha hw => by
  have h3 : (Instr.sliceBounds false s.size s.size (lo.map a.eval) (hi.map a.eval) none).run P w = .ok (i, j, s.size) w := by
    cases hi with
    | none =>
      have hj : s.size = j := by simp [bnd] at hhi; omega
      subst hj
      cases lo with
      | none =>
        have hi0 : i = 0 := by simp [bnd] at hlo; omega
        subst hi0
        rfl
      | some v =>
        have h1 := run_bound (P := P) ha (d := 0) hlo (w := w) (cap := s.size) hil hij .sliceB
        simp only [Instr.sliceBounds, Option.map_some, Option.map_none, Sem.run_bind, Sem.run_pure, Result.andThen, Option.isSome_none, Bool.false_eq_true, if_false, h1]
    | some u =>
      have h2 := run_bound (P := P) ha (d := s.size) hhi (w := w) (cap := s.size) hih hj .sliceAlen
      cases lo with
      | none =>
        have hi0 : i = 0 := by simp [bnd] at hlo; omega
        subst hi0
        simp only [Instr.sliceBounds, Option.map_some, Option.map_none, Sem.run_bind, Sem.run_pure, Result.andThen, Bool.false_eq_true, if_false, h2]
      | some v =>
        have h1 := run_bound (P := P) ha (d := 0) hlo (w := w) (cap := j) hil hij .sliceB
        simp only [Instr.sliceBounds, Option.map_some, Option.map_none, Sem.run_bind, Sem.run_pure, Result.andThen, Option.isSome_none, Bool.false_eq_true, if_false, h2, h1]
  simp only [execOp, ha.ev hx, Instr.sliceAt, Instr.slice, Sem.run_bind, run_underlying ht, Result.andThen, Option.map_none, Option.isSome_none, Bool.false_eq_true, if_false, h3, Sem.run_pure]

/-- the string's bytes in a row of its own (the row bears the run-time's mark behind its end) -/
def rowS (T : TypeId) (l : List Value) : Obj := .cells l.toArray T (l.length, l.length + 1)

theorem Does.s2b {src d e : TypeId} {s : ByteArray} (hx : ev E x = some (.string s)) (hs : P.underlying src = some .string) (hd : P.underlying d = some (.slice e)) (he : P.underlying e = some (.int .u8)) :
    Does P N z E M ⟨dst, .convert src d x, ty, pos, af, gu⟩ (fun u M' => ∃ b c sp, u = .slice (some ⟨b, 0, none⟩) s.size c ∧ s.size + sp.length = c ∧ M' = (b, rowS e (bv s.data.toList ++ sp)) :: M) := fun a w K Q ha hw k => by
  have h := run_bytes_of_string w src d e s hs hd he
  have hex : (execOp a.eval ⟨dst, .convert src d x, ty, pos, af, gu⟩).run P w = .ok (.value (.slice (some ⟨w.heap.size, 0, none⟩) s.size (grownCap w s.size 0 e))) (w.drew.alloc (.cells (bytesRow s (grownCap w s.size 0 e)) e ((bytesRow s (grownCap w s.size 0 e)).size, (bytesRow s (grownCap w s.size 0 e)).size + 1))) := by
    simp [execOp, ha.ev hx, h]
  simp only [Oper.wp, hex, Oper.upon]
  have hge := grownCap_ge w s.size 0 e
  have hrow : rowS e (bv s.data.toList ++ List.replicate (grownCap w s.size 0 e - s.size) (Value.int .u8 0)) = .cells (bytesRow s (grownCap w s.size 0 e)) e ((bytesRow s (grownCap w s.size 0 e)).size, (bytesRow s (grownCap w s.size 0 e)).size + 1) := by
    have : (bytesRow s (grownCap w s.size 0 e)) = (bv s.data.toList ++ List.replicate (grownCap w s.size 0 e - s.size) (Value.int .u8 0)).toArray := by
      apply Array.ext'; simp [bytesRow, bv]
    rw [this]; simp [rowS]
  refine k _ _ _ ⟨w.heap.size, _, List.replicate (grownCap w s.size 0 e - s.size) (Value.int .u8 0), rfl, by simp; omega, rfl⟩ ?_
  rw [hrow]
  exact hw.drew.alloc _

end
end Go.X
namespace Go.X
open Go Go.RowKit
section
variable {z : World} {M M' : Hp}
theorem ro_app {L : Hp} (h : ∀ w, Own z w M → Own z w M') : ∀ w, Own z w (L ++ M) → Own z w M' := fun w hw => h w (hw.sublist (List.sublist_append_right _ _))
theorem ro_cons {x : Nat × Obj} (h : ∀ w, Own z w M → Own z w M') : True := trivial
theorem own_split {w : World} {b c : Nat} {e : TypeId} {l : List UInt8} {sp : List Value} (n : Nat) (h : Own z w ((b, row e (bv l ++ sp)) :: M)) : Own z w (slH (some (b, c, bv (l.drop n) ++ sp)) e (bv (l.take n)) ++ M) := by
  have : bv (l.take n) ++ (bv (l.drop n) ++ sp) = bv l ++ sp := by rw [← List.append_assoc, ← bv_append, List.take_append_drop]
  simpa [slH, this] using h
theorem own_sl {w : World} {b c : Nat} {e : TypeId} {xs sp : List Value} (h : Own z w ((b, row e (xs ++ sp)) :: M)) : Own z w (slH (some (b, c, sp)) e xs ++ M) := h
theorem slOk_split {b c n : Nat} {l : List UInt8} {sp : List Value} (hn : n ≤ l.length) (hc : l.length + sp.length = c) : slOk (some (b, c, bv (l.drop n) ++ sp)) 1 n (bv (l.take n)) := by
  refine ⟨by simp; omega, ?_⟩
  simp; omega
theorem slOk_whole {b c : Nat} {l : List UInt8} {sp : List Value} (hc : l.length + sp.length = c) : slOk (some (b, c, sp)) 1 l.length (bv l) := by
  refine ⟨by simp, ?_⟩
  simp; omega
theorem zrep_bytes (m : Nat) : zrep [Value.int .u8 0] m = bv (List.replicate m 0) := by
  simp only [bv]
  induction m with
  | zero => rfl
  | succ m ih => simp [zrep, List.replicate_succ] at ih ⊢; exact ih
theorem zfill_bytes (m : Nat) : (zfill #[.int .u8 0] (m * 1)).toList = bv (List.replicate m 0) := by
  have := zfill_eq #[Value.int .u8 0] m
  simp only [List.size_toArray, List.length_cons, List.length_nil, Nat.zero_add] at this
  rw [this]
  exact zrep_bytes m
theorem srcZ {P : Program} {xt : TypeId} {m : Nat} (h : P.underlying xt = some (.int .i64)) (hm : (m : Int) ≤ 9223372036854775807) : Src P M 1 (.int .u8 0) xt (.int .i64 (m : Int)) m (bv (List.replicate m 0)) :=
  .inr (.inr ⟨.i64, rfl, ⟨_, h⟩, hm, (zfill_bytes m).symm⟩)
theorem srcB {P : Program} {xt e : TypeId} {a : Option Addr} {m c : Nat} {l : List UInt8} (h : P.underlying xt = some (.slice e)) (hr : RdS M a (bv l)) : Src P M 1 (.int .u8 0) xt (.slice a m c) m (bv l) := .inl ⟨a, c, rfl, ⟨e, h⟩, hr⟩
theorem rd_row {b : Nat} {e : TypeId} {xs sp : List Value} {i : Nat} (hi : M[i]? = some (b, row e (xs ++ sp))) (n : Nat) (hn : n ≤ xs.length) : RdS M (some ⟨b, 0, none⟩) (xs.take n) :=
  .some (Rd.mem (T := e) (l := xs ++ sp) (List.mem_of_getElem? hi) (by
    simp only [List.drop_zero, List.length_take]
    rw [Nat.min_eq_left hn, List.take_append_of_le_length hn]))
theorem rd_rowB {b : Nat} {e : TypeId} {l : List UInt8} {sp : List Value} {i : Nat} (hi : M[i]? = some (b, row e (bv l ++ sp))) (n : Nat) (hn : n ≤ l.length) : RdS M (some ⟨b, 0, none⟩) (bv (l.take n)) := by
  rw [bv_take]; exact rd_row hi n (by simpa using hn)
theorem rd_all {b : Nat} {e : TypeId} {l : List UInt8} {sp : List Value} {i : Nat} (hi : M[i]? = some (b, row e (bv l ++ sp))) : RdS M (some ⟨b, 0, none⟩) (bv l) := by
  have := rd_rowB hi l.length (Nat.le_refl _)
  rwa [List.take_length] at this
end
end Go.X
namespace Go.X
open Go Go.RowKit
section
variable {P : Program} {N : Nat} {z : World} {E : Env} {M : Hp}
variable {dst : Option Tmp} {ty : TypeId} {pos : String} {af : Array Edge} {gu : Option (Nat × Bool)} {t yt : TypeId} {x y : Operand}
/-- x[:j] -/
theorem Val.sliceTo {e : TypeId} {p : Option Addr} {l c j sz : Nat} {hi : Option Operand} {ih : Int} (hx : ev E x = some (.slice p l c)) (ht : slQ P t = some e) (hsz : sizQ P e = some sz)
    (hhi : bnd E l hi = some ih) (hih : ih = (j : Int)) (hjc : j ≤ c) :
    Val P N z E M ⟨dst, .slice t x none hi none, ty, pos, af, gu⟩ (.slice p j c) := by
  have h := Val.slice (P := P) (N := N) (z := z) (M := M) (dst := dst) (ty := ty) (pos := pos) (af := af) (gu := gu) (lo := none) (i := 0) (il := 0) hx ht hsz rfl hhi rfl hih (Nat.zero_le _) hjc rfl
  have e : (if c = 0 then p else p.map (·.add (0 * sz))) = p := by
    cases p with
    | none => simp
    | some q => simp [Addr.add]
  rw [e] at h
  exact h
/-- x[i:j], i below the capacity -/
theorem Val.sliceAt {e : TypeId} {b o l c i j sz r : Nat} {lo hi : Option Operand} {il ih : Int} (hx : ev E x = some (.slice (some ⟨b, o, none⟩) l c)) (ht : slQ P t = some e) (hsz : sizQ P e = some sz)
    (hlo : bnd E 0 lo = some il) (hhi : bnd E l hi = some ih) (hil : il = (i : Int)) (hih : ih = (j : Int)) (hij : i ≤ j) (hjc : j ≤ c) (hic : i < c) (hr : o + i * sz = r) :
    Val P N z E M ⟨dst, .slice t x lo hi none, ty, pos, af, gu⟩ (.slice (some ⟨b, r, none⟩) (j - i) (c - i)) := by
  have h := Val.slice (P := P) (N := N) (z := z) (M := M) (dst := dst) (ty := ty) (pos := pos) (af := af) (gu := gu) hx ht hsz hlo hhi hil hih hij hjc rfl
  rw [if_neg (by omega), Option.map_some, addr_add, hr] at h
  exact h
end
end Go.X
namespace Go.X
open Go Go.RowKit
theorem ro_pre {z : World} {M L : Hp} : ∀ w, Own z w (M ++ L) → Own z w M := fun w hw => hw.sublist (List.sublist_append_left _ _)
theorem ro_rot {z : World} {M L : Hp} : ∀ w, Own z w (L ++ M) → Own z w (M ++ L) := fun w hw => hw.perm List.perm_append_comm
theorem FnC.heapR {P : Program} {f : FuncId} {args : Array Value} {M : Hp} {R R' : Value → Hp → Prop} (h : FnC P f args M R) (hr : ∀ v M', R v M' → ∃ M'', R' v M'' ∧ ∀ z w, Own z w M' → Own z w M'') : FnC P f args M R' :=
  fun z w hw => (h z w hw).mono fun _ _ ⟨v, M', he, hR, ho⟩ => by
    obtain ⟨M'', h1, h2⟩ := hr v M' hR
    exact ⟨v, M'', he, h1, h2 z _ ho⟩
end Go.X
namespace Go.X
open Go
theorem RdS.pre {M : Hp} {a : Option Addr} {ys : List Value} (L : Hp) (h : RdS M a ys) : RdS (M ++ L) a ys := h.mono fun _ hx => List.mem_append_left _ hx
theorem Rd.pre {M : Hp} {a : Addr} {ys : List Value} (L : Hp) (h : Rd M a ys) : Rd (M ++ L) a ys := h.mono fun _ hx => List.mem_append_left _ hx
end Go.X
/- Plain words for the log: sums, bytes of numbers, cells. -/
set_option linter.unusedVariables false
namespace Go.X
open Go

/-- byte number k of a number -/
def byteAt (n : Int) (k : Nat) : UInt8 := b8 (n / 2 ^ (8 * k))
/-- the first k bytes of a number, the lowest first -/
def pb (n : Int) : Nat → List UInt8
  | 0 => []
  | k + 1 => pb n k ++ [byteAt n k]
def put8 (n : Int) : List UInt8 := pb n 8
@[simp] theorem pb_len (n : Int) (k : Nat) : (pb n k).length = k := by induction k <;> simp_all [pb]
@[simp] theorem put8_len (n : Int) : (put8 n).length = 8 := pb_len n 8

theorem shr_val {n : Int} {k : Nat} (h : 8 * k ≤ 64) : n.fdiv (2 ^ (min ((8 : Int) * (k : Int)).toNat IntKind.u64.bits)) = n / 2 ^ (8 * k) := by
  have e : min ((8 : Int) * (k : Int)).toNat IntKind.u64.bits = 8 * k := by
    simp only [IntKind.bits]; omega
  rw [e, Int.fdiv_eq_ediv_of_nonneg]
  exact Int.pow_nonneg (by decide)

/-- the sum of the first k bytes -/
def sumTo (l : List UInt8) : Nat → Nat
  | 0 => 0
  | k + 1 => sumTo l k + (k + 1) * ((l.getD k 0).toNat + 1)
def sum18 (l : List UInt8) : Nat := sumTo l l.length

theorem sumTo_le (l : List UInt8) (k : Nat) : sumTo l k ≤ 256 * k * k := by
  induction k with
  | zero => simp [sumTo]
  | succ k ih =>
    have h : (l.getD k 0).toNat < 256 := UInt8.toNat_lt _
    have h2 : (k + 1) * ((l.getD k 0).toNat + 1) ≤ (k + 1) * 256 := Nat.mul_le_mul_left _ (by omega)
    have e : 256 * (k + 1) * (k + 1) = 256 * k * k + 512 * k + 256 := by
      simp only [Nat.mul_add, Nat.add_mul, Nat.mul_one]; omega
    simp only [sumTo]
    omega
theorem sumTo_bd (l : List UInt8) (k : Nat) (hk : k ≤ 1000) : sumTo l k ≤ 256000000 := by
  have h := sumTo_le l k
  have : 256 * k * k ≤ 256 * 1000 * 1000 := Nat.mul_le_mul (Nat.mul_le_mul_left _ hk) hk
  omega
theorem term_bd (c : UInt8) (k : Nat) (hk : k ≤ 1000) : (k + 1) * (c.toNat + 1) ≤ 256256 := by
  have h : c.toNat < 256 := UInt8.toNat_lt _
  have : (k + 1) * (c.toNat + 1) ≤ 1001 * 256 := Nat.mul_le_mul (by omega) (by omega)
  omega
end Go.X
namespace Go.X
open Go
def markB (p : Int) : UInt8 := if p > 250 then 0 else b8 p
/-- the number that stands at a place: of its first k bytes -/
def getTo (l : List UInt8) (o : Nat) : Nat → Nat
  | 0 => 0
  | k + 1 => getTo l o k + (l.getD (o + k) 0).toNat * 2 ^ (8 * k)
def get8 (l : List UInt8) (o : Nat) : Nat := getTo l o 8
theorem getTo_lt (l : List UInt8) (o k : Nat) : getTo l o k < 2 ^ (8 * k) := by
  induction k with
  | zero => simp [getTo]
  | succ k ih =>
    have h : (l.getD (o + k) 0).toNat < 256 := UInt8.toNat_lt _
    have h2 : (l.getD (o + k) 0).toNat * 2 ^ (8 * k) ≤ 255 * 2 ^ (8 * k) := Nat.mul_le_mul_right _ (by omega)
    have e : 2 ^ (8 * (k + 1)) = 256 * 2 ^ (8 * k) := by rw [Nat.mul_add, Nat.pow_add]; omega
    simp only [getTo]
    omega
theorem pow_le64 {k : Nat} (hk : k < 8) : 2 ^ (8 * k) ≤ 2 ^ 56 := Nat.pow_le_pow_right (by omega) (by omega)
theorem bits_or {a b : Nat} (ha : a < 2 ^ 64) (hb : b < 2 ^ 64) : bitsOf .or .u64 (a : Int) (b : Int) = ((a ||| b : Nat) : Int) := by
  have h : bitsOf .or .u64 (a : Int) (b : Int) = IntKind.u64.wrap (((BitVec.ofInt 64 (a : Int)) ||| (BitVec.ofInt 64 (b : Int))).toNat : Nat) := rfl
  have hlt : a ||| b < 2 ^ 64 := Nat.or_lt_two_pow ha hb
  rw [h, BitVec.ofInt_natCast, BitVec.ofInt_natCast, BitVec.toNat_or, BitVec.toNat_ofNat, BitVec.toNat_ofNat, Nat.mod_eq_of_lt ha, Nat.mod_eq_of_lt hb]
  exact w_u64 (by omega) (by omega)
theorem or_add {k a c : Nat} (hk : k < 8) (ha : a < 2 ^ (8 * k)) (hc : c < 256) : bitsOf .or .u64 (a : Int) ((c * 2 ^ (8 * k) : Nat) : Int) = ((a + c * 2 ^ (8 * k) : Nat) : Int) := by
  have h1 := pow_le64 hk
  have h2 : c * 2 ^ (8 * k) ≤ 255 * 2 ^ 56 := Nat.mul_le_mul (by omega) h1
  have e : (a ||| c * 2 ^ (8 * k)) = a + c * 2 ^ (8 * k) := by
    rw [← Nat.shiftLeft_eq, Nat.or_comm, ← Nat.shiftLeft_add_eq_or_of_lt ha, Nat.add_comm]
  rw [bits_or (by omega) (by omega), e]
theorem shl_val {k c : Nat} (hk : k < 8) (hc : c < 256) : IntKind.u64.wrap ((c : Int) * 2 ^ (min ((8 : Int) * (k : Int)).toNat IntKind.u64.bits)) = ((c * 2 ^ (8 * k) : Nat) : Int) := by
  have e : min ((8 : Int) * (k : Int)).toNat IntKind.u64.bits = 8 * k := by simp only [IntKind.bits]; omega
  have h1 := pow_le64 hk
  have h2 : c * 2 ^ (8 * k) ≤ 255 * 2 ^ 56 := Nat.mul_le_mul (by omega) h1
  have e2 : ((c : Int) * 2 ^ (8 * k)) = ((c * 2 ^ (8 * k) : Nat) : Int) := by push_cast; rfl
  rw [e, e2]
  exact w_u64 (by omega) (by omega)

def passOf (l : List UInt8) : Nat := get8 l 0 % 4294967296
def wholeB (l : List UInt8) : Bool := (decide ((1 : Int) ≤ (passOf l : Nat)) && decide (((passOf l : Nat) : Int) ≤ 250)) && decide (((l.getD 63 0).toNat : Int) = ((markB (passOf l : Nat)).toNat : Int))
def headB (p pl kd : Int) (d : List UInt8) : List UInt8 := (put8 p).take 4 ++ [b8 pl, b8 (pl / 256), b8 kd, b8 d.length]
def bodyB (p pl kd : Int) (d : List UInt8) : List UInt8 := headB p pl kd d ++ d ++ List.replicate (48 - d.length) 0
/-- a cell's sector -/
def cellB (p pl kd : Int) (d : List UInt8) : List UInt8 :=
  bodyB p pl kd d ++ (put8 (sum18 (bodyB p pl kd d) : Nat)).take 4 ++ List.replicate 3 0 ++ [markB p]
def mayC (p pl kd : Int) (n : Nat) : Bool := decide (1 ≤ p) && decide (p ≤ 250) && decide (0 ≤ pl) && decide (pl ≤ 4096) && decide (1 ≤ kd) && decide (kd ≤ 3) && decide ((n : Int) ≤ 48)
theorem bodyB_len (p pl kd : Int) (d : List UInt8) (h : d.length ≤ 48) : (bodyB p pl kd d).length = 56 := by
  simp [bodyB, headB]; omega
theorem cellB_len (p pl kd : Int) (d : List UInt8) (h : d.length ≤ 48) : (cellB p pl kd d).length = 64 := by
  simp [cellB, bodyB_len _ _ _ _ h]
theorem shr8 (pl : Int) : pl.fdiv (2 ^ (min (8 : Int).toNat IntKind.i64.bits)) = pl / 256 := by
  rw [Int.fdiv_eq_ediv_of_nonneg _ (Int.pow_nonneg (by decide))]; rfl

def plOf (l : List UInt8) : Nat := (l.getD 4 0).toNat + 256 * (l.getD 5 0).toNat
def kdOf (l : List UInt8) : Nat := (l.getD 6 0).toNat
def nOf (l : List UInt8) : Nat := min (l.getD 7 0).toNat 48
def dOf (l : List UInt8) : List UInt8 := (l.drop 8).take (nOf l)
theorem dOf_len {l : List UInt8} (h : l.length = 64) : (dOf l).length = nOf l := by
  simp [dOf, nOf, h]
def mayL (l : List UInt8) : Bool := mayC (passOf l : Nat) (plOf l : Nat) (kdOf l : Nat) (nOf l)
/-- the cell that would be of a sector, put again -/
def againB (l : List UInt8) : List UInt8 := cellB (passOf l : Nat) (plOf l : Nat) (kdOf l : Nat) (dOf l)
def zeroC : Value := .agg #[.int .u32 0, .int .i64 0, .int .i64 0, .slice none 0 0]
theorem bits_or64 {a b : Nat} (ha : a < 2 ^ 62) (hb : b < 2 ^ 62) : bitsOf .or .i64 (a : Int) (b : Int) = ((a ||| b : Nat) : Int) := by
  have h : bitsOf .or .i64 (a : Int) (b : Int) = IntKind.i64.wrap (((BitVec.ofInt 64 (a : Int)) ||| (BitVec.ofInt 64 (b : Int))).toNat : Nat) := rfl
  have hlt : a ||| b < 2 ^ 62 := Nat.or_lt_two_pow ha hb
  rw [h, BitVec.ofInt_natCast, BitVec.ofInt_natCast, BitVec.toNat_or, BitVec.toNat_ofNat, BitVec.toNat_ofNat, Nat.mod_eq_of_lt (by omega), Nat.mod_eq_of_lt (by omega)]
  exact w_i64 (by omega) (by omega)
theorem or_pl {a c : Nat} (ha : a < 256) (hc : c < 256) : bitsOf .or .i64 (a : Int) ((c * 256 : Nat) : Int) = ((a + 256 * c : Nat) : Int) := by
  have e : (a ||| c * 256) = a + 256 * c := by
    have h8 : (256 : Nat) = 2 ^ 8 := rfl
    rw [h8, ← Nat.shiftLeft_eq, Nat.or_comm, ← Nat.shiftLeft_add_eq_or_of_lt (by omega), Nat.shiftLeft_eq]; omega
  rw [bits_or64 (by omega) (by omega), e]
theorem shl_pl {c : Nat} (hc : c < 256) : IntKind.i64.wrap ((c : Int) * 2 ^ (min (8 : Int).toNat IntKind.i64.bits)) = ((c * 256 : Nat) : Int) := by
  have e : ((c : Int) * 2 ^ (min (8 : Int).toNat IntKind.i64.bits)) = ((c * 256 : Nat) : Int) := by
    show (c : Int) * 2 ^ 8 = _
    omega
  rw [e]; exact w_i64 (by omega) (by omega)
end Go.X
/- Plain words for the log: a cell comes back from its bytes. -/
set_option linter.unusedVariables false
namespace Go.X
open Go

theorem b8_nat (x : Int) : (b8 x).toNat = (x % 256).toNat := by have := b8_toNat x; omega
theorem byteAt_nat (n : Int) (k : Nat) : (byteAt n k).toNat = ((n / 2 ^ (8 * k)) % 256).toNat := b8_nat _

def restB (p pl kd : Int) (d : List UInt8) : List UInt8 := List.replicate (48 - d.length) 0 ++ ((put8 (sum18 (bodyB p pl kd d) : Nat)).take 4 ++ ([0, 0, 0] ++ [markB p]))
theorem cell_head (p pl kd : Int) (d : List UInt8) : cellB p pl kd d = byteAt p 0 :: byteAt p 1 :: byteAt p 2 :: byteAt p 3 :: b8 pl :: b8 (pl / 256) :: b8 kd :: b8 d.length :: (d ++ restB p pl kd d) := by
  have e : (put8 p).take 4 = [byteAt p 0, byteAt p 1, byteAt p 2, byteAt p 3] := by simp [put8, pb]
  have h : headB p pl kd d = [byteAt p 0, byteAt p 1, byteAt p 2, byteAt p 3, b8 pl, b8 (pl / 256), b8 kd, b8 d.length] := by simp [headB, e]
  simp only [cellB, restB]
  generalize hs : (put8 (sum18 (bodyB p pl kd d) : Nat)).take 4 = s
  simp [bodyB, h]

theorem mayC_iff {p pl kd : Int} {n : Nat} : mayC p pl kd n = true ↔ (1 ≤ p ∧ p ≤ 250 ∧ 0 ≤ pl ∧ pl ≤ 4096 ∧ 1 ≤ kd ∧ kd ≤ 3 ∧ n ≤ 48) := by
  simp [mayC]; omega

theorem getD_last (L : List UInt8) (x : UInt8) (n : Nat) (h : L.length = n) : (L ++ [x]).getD n 0 = x := by
  simp [List.getD_eq_getElem?_getD, ← h]

section
variable {p pl kd : Int} {d : List UInt8} (hm : mayC p pl kd d.length = true)
include hm

theorem cell_pass : (passOf (cellB p pl kd d) : Int) = p := by
  obtain ⟨h1, h2, _⟩ := mayC_iff.1 hm
  have hb := fun k => byteAt_nat p k
  rw [cell_head]
  simp only [passOf, get8, getTo, List.getD_cons_zero, List.getD_cons_succ, Nat.zero_add]
  have e0 := hb 0
  have e1 := hb 1
  have e2 := hb 2
  have e3 := hb 3
  simp only [Nat.reduceMul, Int.reducePow, Nat.reducePow, Int.ediv_one, Nat.mul_one] at e0 e1 e2 e3 ⊢
  omega

theorem cell_pl : (plOf (cellB p pl kd d) : Int) = pl := by
  obtain ⟨h1, h2, h3, h4, _⟩ := mayC_iff.1 hm
  rw [cell_head]
  simp only [plOf, List.getD_cons_zero, List.getD_cons_succ]
  have e0 := b8_nat pl
  have e1 := b8_nat (pl / 256)
  omega

theorem cell_kd : (kdOf (cellB p pl kd d) : Int) = kd := by
  obtain ⟨h1, h2, h3, h4, h5, h6, _⟩ := mayC_iff.1 hm
  rw [cell_head]
  simp only [kdOf, List.getD_cons_zero, List.getD_cons_succ]
  have e0 := b8_nat kd
  omega

theorem cell_n : nOf (cellB p pl kd d) = d.length := by
  obtain ⟨h1, h2, h3, h4, h5, h6, h7⟩ := mayC_iff.1 hm
  rw [cell_head]
  simp only [nOf, List.getD_cons_zero, List.getD_cons_succ]
  have e0 := b8_nat d.length
  omega

theorem cell_d : dOf (cellB p pl kd d) = d := by
  have h := cell_n hm
  simp only [dOf, h]
  rw [cell_head]
  simp

theorem cell_last : (cellB p pl kd d).getD 63 0 = markB p := by
  obtain ⟨h1, h2, h3, h4, h5, h6, h7⟩ := mayC_iff.1 hm
  exact getD_last _ _ 63 (by simp [bodyB_len _ _ _ _ h7])

theorem cell_whole : wholeB (cellB p pl kd d) = true := by
  obtain ⟨h1, h2, _⟩ := mayC_iff.1 hm
  simp only [wholeB, cell_pass hm, cell_last hm]
  simp [h1, h2]

theorem cell_may : mayL (cellB p pl kd d) = true := by
  simp only [mayL, cell_pass hm, cell_pl hm, cell_kd hm, cell_n hm]
  exact hm

theorem cell_again : againB (cellB p pl kd d) = cellB p pl kd d := by
  simp only [againB, cell_pass hm, cell_pl hm, cell_kd hm, cell_d hm]

theorem cell_len : (cellB p pl kd d).length = 64 := cellB_len _ _ _ _ (mayC_iff.1 hm).2.2.2.2.2.2
end

theorem sumTo_set (l : List UInt8) (j : Nat) (c : UInt8) (hj : j < l.length) : ∀ k, sumTo (l.set j c) k + (if j < k then (j + 1) * ((l.getD j 0).toNat + 1) else 0) = sumTo l k + (if j < k then (j + 1) * (c.toNat + 1) else 0) := by
  intro k
  induction k with
  | zero => simp [sumTo]
  | succ k ih =>
    simp only [sumTo]
    by_cases h : j = k
    · subst h
      have e : (l.set j c).getD j 0 = c := by simp [List.getD_eq_getElem?_getD, hj]
      rw [e]
      have h1 : ¬ j < j := by omega
      have h2 : j < j + 1 := by omega
      simp only [h1, h2, if_true, if_false] at ih ⊢
      omega
    · have e : (l.set j c).getD k 0 = l.getD k 0 := by simp [List.getD_eq_getElem?_getD, h]
      rw [e]
      by_cases h3 : j < k
      · have h4 : j < k + 1 := by omega
        simp only [h3, h4, if_true] at ih ⊢
        omega
      · have h4 : ¬ j < k + 1 := by omega
        simp only [h3, h4, if_false] at ih ⊢
        omega
theorem sum_set (l : List UInt8) (j : Nat) (c : UInt8) (hj : j < l.length) : (sum18 (l.set j c) = sum18 l) ↔ c = l.getD j 0 := by
  have h := sumTo_set l j c hj l.length
  simp only [hj, if_true] at h
  simp only [sum18, List.length_set]
  constructor
  · intro e
    rw [e] at h
    have h2 : (j + 1) * ((l.getD j 0).toNat + 1) = (j + 1) * (c.toNat + 1) := by omega
    have h3 := Nat.eq_of_mul_eq_mul_left (by omega) h2
    exact UInt8.toNat_inj.1 (by omega)
  · intro e
    subst e
    omega
theorem rem_u {m : Int} {n : Nat} (hm : 0 ≤ m) : m.tmod (n : Int) = ((m.toNat % n : Nat) : Int) := by
  rw [Int.tmod_eq_emod_of_nonneg hm, Int.natCast_emod, Int.toNat_of_nonneg hm]

theorem sum_set_dec (l : List UInt8) (j : Nat) (c : UInt8) (hj : j < l.length) : Value.bool (decide (((sum18 (l.set j c) : Nat) : Int) = ((sum18 l : Nat) : Int)) == decide (((c.toNat : Nat) : Int) = (((l.getD j 0).toNat : Nat) : Int))) = Value.bool true := by
  have h := sum_set l j c hj
  have e1 : ((sum18 (l.set j c) : Nat) : Int) = ((sum18 l : Nat) : Int) ↔ sum18 (l.set j c) = sum18 l := by omega
  have e2 : ((c.toNat : Nat) : Int) = (((l.getD j 0).toNat : Nat) : Int) ↔ c = l.getD j 0 := by rw [← UInt8.toNat_inj]; omega
  rw [Value.bool.injEq, beq_iff_eq, decide_eq_decide, e1, e2]
  exact h
end Go.X
/- Plain words for the hash: words turned, rounds, the sum of bytes under a key. -/
set_option linter.unusedVariables false
set_option linter.unusedSimpArgs false
namespace Go.X
open Go
theorem and63 : ∀ k : Fin 64, bitsOf .and .u64 (k.val : Int) 63 = (k.val : Int) := by decide +kernel
/-- a word turned to the left -/
def rotl (x : Int) (k : Nat) : Int := bitsOf .or .u64 (IntKind.u64.wrap (x * 2 ^ k)) (x.fdiv (2 ^ (64 - k)))
def add64 (a b : Int) : Int := IntKind.u64.wrap (a + b)
def xor64 (a b : Int) : Int := bitsOf .xor .u64 a b
structure W4 where
  a : Int
  b : Int
  c : Int
  d : Int
def round1 (w : W4) : W4 :=
  let a1 := add64 w.a w.b
  let b1 := xor64 (rotl w.b 13) a1
  let a2 := rotl a1 32
  let c1 := add64 w.c w.d
  let d1 := xor64 (rotl w.d 16) c1
  let a3 := add64 a2 d1
  let d2 := xor64 (rotl d1 21) a3
  let c2 := add64 c1 b1
  let b2 := xor64 (rotl b1 17) c2
  let c3 := rotl c2 32
  ⟨a3, b2, c3, d2⟩
def rounds : Nat → W4 → W4
  | 0, w => w
  | n + 1, w => round1 (rounds n w)
def takeW (m : Int) (w : W4) : W4 :=
  let v := rounds 2 { w with d := xor64 w.d m }
  { v with a := xor64 v.a m }
/-- the first k words of bytes taken -/
def absorb (l : List UInt8) : Nat → W4 → W4
  | 0, w => w
  | k + 1, w => takeW (get8 l (8 * k) : Nat) (absorb l k w)
def endW (w : W4) : Int :=
  let v := rounds 4 { w with c := xor64 w.c 255 }
  xor64 (xor64 (xor64 v.a v.b) v.c) v.d
def keyW (k0 k1 : Int) : W4 := ⟨xor64 0x736f6d6570736575 k0, xor64 0x646f72616e646f6d k1, xor64 0x6c7967656e657261 k0, xor64 0x7465646279746573 k1⟩
/-- what is left, filled up with noughts to seven bytes, and how many there were -/
def lastB (l : List UInt8) : List UInt8 := l.drop (8 * (l.length / 8)) ++ List.replicate (7 - l.length % 8) 0 ++ [b8 l.length]
def sipSum (k0 k1 : Int) (l : List UInt8) : Int := endW (takeW (get8 (lastB l) 0 : Nat) (absorb l (l.length / 8) (keyW k0 k1)))
end Go.X
/- The engine: a byte stored; a literal's bytes converted; all of a world's heap; what a law's arguments are. -/
set_option linter.unusedVariables false
set_option linter.unusedSimpArgs false
namespace Go.X
open Go Go.RowKit

section
variable {P : Program} {N : Nat} {z : World} {E : Env} {M : Hp}
variable {dst : Option Tmp} {ty : TypeId} {pos : String} {af : Array Edge} {gu : Option (Nat × Bool)} {t yt : TypeId} {x y : Operand}

theorem bv_set (l : List UInt8) (j : Nat) (c : UInt8) : bv (l.set j c) = (bv l).set j (.int .u8 c.toNat) := by simp [bv, List.map_set]

/-- b[j] = c, in a row of one's own -/
theorem Does.storeB {b off i j : Nat} {l : List UInt8} {sp : List Value} {T : TypeId} {c : UInt8} (hx : ev E x = some (.pointer (some ⟨b, off, none⟩))) (hy : ev E y = some (.int .u8 c.toNat)) (hi : M[i]? = some (b, row T (bv l ++ sp))) (ho : off = j) (hj : j < l.length)
    (hn : sizQ P t = some 1) : Does P N z E M ⟨dst, .store t x y, ty, pos, af, gu⟩ (fun u M'' => u = undef ∧ M'' = M.set i (b, row T (bv (l.set j c) ++ sp))) := by
  subst ho
  refine Does.store hx hy hi hn rfl rfl (by simp; omega) (?_ : _ = (bv (l.set off c) ++ sp).toArray) rfl
  apply Array.ext'
  simp only [splice, Value.cells, Array.toList_setIfInBounds, bv_set]
  rw [List.set_append_left _ _ (by simpa using hj)]

/-- []byte("..") of a literal: the row bears the run-time's mark then -/
theorem Does.convSl {e b o n c i : Nat} {cs : Array Value} {T : TypeId} {M' : Hp} (hx : ev E x = some (.slice (some ⟨b, o, none⟩) n c)) (ht : P.underlying t = some (.slice e)) (he : P.underlying e = some (.int .u8)) (hi : M[i]? = some (b, .cells cs T (0, 0)))
    (hM : M.set i (b, .cells cs T (cs.size, cs.size + 1)) = M') : Does P N z E M ⟨dst, .convert t t x, ty, pos, af, gu⟩ (fun u M'' => u = .slice (some ⟨b, o, none⟩) n c ∧ M'' = M') := fun a w K Q ha hw k => by
  subst hM
  have hb := hw.at hi
  have hsh : w.shape? b = some (T, cs.size) := by simp [World.shape?, hb]
  have hex : (execOp a.eval ⟨dst, .convert t t x, ty, pos, af, gu⟩).run P w = .ok (.value (.slice (some ⟨b, o, none⟩) n c)) (w.freeze ⟨b, cs.size, none⟩ 1) := by
    simp [execOp, ha.ev hx, convert, run_underlying ht, run_underlying he, Result.andThen, markStringish, shape, Sem.run, hsh, Go.freeze]
  simp only [Oper.wp, hex, Oper.upon]
  refine k _ _ _ ⟨rfl, rfl⟩ (hw.setAt hi rfl rfl rfl ?_ ?_)
  · simp only [World.freeze, if_neg (by decide : ¬ (1 = 0)), Array.getElem?_modify, if_pos, hb, Option.map_some]
    simp
  · intro k hk
    simp only [World.freeze, if_neg (by decide : ¬ (1 = 0)), Array.getElem?_modify]
    rw [if_neg (fun e => hk e.symm)]
end

/-! ### all of a heap -/

def allHp (w : World) : Hp := (List.range w.heap.size).filterMap fun b => (w.heap[b]?).map fun o => (b, o)

theorem mem_allHp {w : World} {b : Nat} {o : Obj} : (b, o) ∈ allHp w ↔ w.heap[b]? = some o := by
  simp only [allHp, List.mem_filterMap, List.mem_range, Option.map_eq_some_iff]
  constructor
  · rintro ⟨a, _, o', h, he⟩
    cases he
    exact h
  · intro h
    exact ⟨b, (Array.getElem?_eq_some_iff.1 h).1, o, h, rfl⟩

theorem allHp_keys (w : World) : (allHp w).map (·.1) = List.range w.heap.size := by
  simp only [allHp]
  rw [List.map_filterMap]
  have : ∀ l : List Nat, (∀ b ∈ l, b < w.heap.size) → l.filterMap (fun b => ((w.heap[b]?).map fun o => (b, o)).map (·.1)) = l := by
    intro l
    induction l with
    | nil => simp
    | cons b r ih =>
      intro h
      have hb := h b (List.mem_cons_self ..)
      simp only [List.filterMap_cons, Array.getElem?_eq_getElem hb, Option.map_some]
      rw [ih fun c hc => h c (List.mem_cons_of_mem _ hc)]
  exact this _ fun b hb => List.mem_range.1 hb

theorem own_all (w : World) : Own w w (allHp w) := ⟨rfl, rfl, rfl, by rw [allHp_keys]; exact List.nodup_range, fun b o h => mem_allHp.1 h⟩

theorem below_all {w w' : World} (h : Own w w' (allHp w)) : Below w.heap.size w w' := by
  refine ⟨h.os, h.tape, h.output, ?_, fun k hk => ?_⟩
  · rcases Nat.eq_zero_or_pos w.heap.size with h0 | h0
    · omega
    · have hk : w.heap.size - 1 < w.heap.size := by omega
      have := h.mem (w.heap.size - 1) w.heap[w.heap.size - 1] (mem_allHp.2 (Array.getElem?_eq_getElem hk))
      have := (Array.getElem?_eq_some_iff.1 this).1
      omega
  · have := h.mem k w.heap[k] (mem_allHp.2 (Array.getElem?_eq_getElem hk))
    rw [this, Array.getElem?_eq_getElem hk]

/-- A law's contract as the row asks for it. -/
theorem FnC.law {P : Program} {f : FuncId} {args : Array Value} {w : World} (h : FnC P f args (allHp w) (fun v M' => v = .bool true ∧ allHp w = M')) : Calls P f args w fun e w' => e = .returned (.bool true) ∧ Below w.heap.size w w' :=
  (h w w (own_all w)).mono fun e w' ⟨v, M', he, ⟨hv, hM⟩, ho⟩ => by
    subst hv; subst hM
    exact ⟨he, below_all ho⟩

/-- cells that read, one by one, are a row that reads -/
theorem rdS_cells {w : World} {p : Addr} {ys : List Value} (h : ∀ i v, ys[i]? = some v → w.cell? (p.add i) = some v) : RdS (allHp w) (some p) ys := by
  cases ys with
  | nil => exact .inl rfl
  | cons y r =>
    right
    have h0 := h 0 y rfl
    have hp0 : p.add 0 = p := by simp [Addr.add]
    rw [hp0] at h0
    simp only [World.cell?] at h0
    split at h0
    · rename_i cs T fz hb
      split at h0
      · cases h0
      · rename_i hs
        have hsp : p.spot = none := by cases hq : p.spot <;> simp_all
        refine ⟨p, rfl, cs, T, fz, mem_allHp.2 hb, hsp, ?_⟩
        apply List.ext_getElem?
        intro i
        rw [List.getElem?_take]
        split
        · rename_i hi
          have hv := h i _ (List.getElem?_eq_getElem hi)
          obtain ⟨b, off, s⟩ := p
          simp only at hsp; subst hsp
          rw [addr_add, cell_of hb] at hv
          rw [List.getElem?_drop, List.getElem?_eq_getElem hi]
          simpa using hv
        · rename_i hi
          rw [List.getElem?_eq_none (by omega)]
    · cases h0

/-- a slice of bytes that came in -/
theorem rdS_bytes {w : World} {a : Option Addr} {len cap : Nat} {zs : List Int} (h : (a = none ∧ len = 0 ∧ cap = 0 ∧ zs = []) ∨ ∃ x, a = some x ∧ len ≤ cap ∧ cap ≤ maxLen ∧ zs.length = cap ∧ (∀ i, i < zs.length → w.cell? (x.add i) = some (.int .u8 (zs.getD i 0))) ∧ ∀ n ∈ zs, (Lit.int .u8 n).wf = true) :
    ∃ l : List UInt8, len = l.length ∧ len ≤ cap ∧ cap ≤ maxLen ∧ RdS (allHp w) a (bv l) := by
  rcases h with ⟨rfl, rfl, rfl, rfl⟩ | ⟨x, rfl, hl, hm, hz, hc, hw⟩
  · exact ⟨[], rfl, Nat.le_refl _, by unfold maxLen; omega, .inl rfl⟩
  · refine ⟨(zs.take len).map fun n => UInt8.ofNat n.toNat, by simp; omega, hl, hm, rdS_cells fun i v hv => ?_⟩
    simp only [bv, List.map_map, List.getElem?_map, Option.map_eq_some_iff] at hv
    obtain ⟨n, hn, rfl⟩ := hv
    rw [List.getElem?_take] at hn
    split at hn
    · rename_i hi
      have hi2 : i < zs.length := by omega
      rw [hc i hi2]
      have hmem : n ∈ zs := List.mem_of_getElem? hn
      have hwf := hw n hmem
      rw [List.getD_eq_getElem?_getD, hn]
      simp only [Option.getD_some, Function.comp, UInt8.toNat_ofNat']
      have hb : 0 ≤ n ∧ n < 256 := by
        simp [Lit.wf, IntKind.min, IntKind.max, IntKind.signed, IntKind.bits] at hwf
        omega
      congr 2
      omega
    · cases hn
end Go.X
namespace Go.X
open Go
theorem rd_allR {M : Hp} {b : Nat} {e : TypeId} {l : List UInt8} {sp : List Value} {i : Nat} (hi : M[i]? = some (b, row e (bv l ++ sp))) : Rd M ⟨b, 0, none⟩ (bv l) :=
  Rd.mem (T := e) (l := bv l ++ sp) (List.mem_of_getElem? hi) (by simp)
end Go.X
/- The engine: what came in, by the shape of its type. -/
set_option linter.unusedVariables false
set_option linter.unusedSimpArgs false
namespace Go.X
open Go Go.RowKit

inductive Sh where
  | int (k : IntKind) | bool | str
  | sl (sz : Nat) (e : Sh)
  | nil | fld (off sz : Nat) (e rest : Sh)
  | other

/-- the cells are as a value of the shape has them -/
def Fits (W : World) : Sh → List Value → Prop
  | .int k, cs => ∃ n, cs = [.int k n] ∧ (Lit.int k n).wf = true
  | .bool, cs => ∃ b, cs = [.bool b]
  | .str, cs => ∃ s : ByteArray, cs = [.string s] ∧ s.size ≤ maxLen
  | .sl sz e, cs => cs = [.slice none 0 0] ∨ ∃ a len cap, cs = [.slice (some a) len cap] ∧ len ≤ cap ∧ cap ≤ maxLen ∧ ∀ i, i < len → ∃ ds, W.cells? 0 (a.add (i * sz)) sz = some ds ∧ Fits W e ds
  | .nil, _ => True
  | .fld off sz e rest, cs => Fits W e ((cs.drop off).take sz) ∧ Fits W rest cs
  | .other, _ => True

def shq (P : Program) : Nat → TypeId → Sh
  | 0, _ => .other
  | n + 1, t => match P.underlying t with
    | some .bool => .bool
    | some (.int k) => .int k
    | some .string => .str
    | some (.slice e) => .sl (P.cellsOf e) (shq P n e)
    | some (.struct fs) => fs.toList.foldr (fun f r => .fld f.offset (P.cellsOf f.type) (shq P n f.type) r) .nil
    | _ => .other

theorem fits_flds (W : World) (P : Program) (n : Nat) (cs : List Value) : ∀ l : List Field, (∀ f ∈ l, Fits W (shq P n f.type) ((cs.drop f.offset).take (P.cellsOf f.type))) →
    Fits W (l.foldr (fun f r => .fld f.offset (P.cellsOf f.type) (shq P n f.type) r) .nil) cs := by
  intro l
  induction l with
  | nil => intro _; trivial
  | cons f r ih => intro h; exact ⟨h f (List.mem_cons_self ..), ih fun g hg => h g (List.mem_cons_of_mem _ hg)⟩

theorem fits_of_trod {H : Type} {enc : TypeId × Value → H} {P : Program} {W : World} {sp : Nat → Bool} {held : Bool} : ∀ (n fuel : Nat) (t : TypeId) (cs : List Value) (x : DataW H × List MemPlace),
    DataW.trod enc P W 0 sp held fuel t cs = some x → Fits W (shq P n t) cs := by
  intro n
  induction n with
  | zero => intro fuel t cs x h; trivial
  | succ n ih =>
    intro fuel t cs x h
    unfold shq
    split
    · rename_i ht
      obtain ⟨b, h1, _⟩ := DataW.trod_bool ht h
      exact ⟨b, h1⟩
    · rename_i k ht
      obtain ⟨m, h1, _, h3⟩ := DataW.trod_int ht h
      exact ⟨m, h1, h3⟩
    · rename_i ht
      obtain ⟨s, h1, _, h3⟩ := DataW.trod_string ht h
      exact ⟨s, h1, h3⟩
    · rename_i e ht
      rcases DataW.trod_slice ht h with ⟨h0, _⟩ | ⟨a, len, cap, elems, rest, m, _, hcs, rfl, hb, hl, hm, hlen, hel, hsp, hns⟩
      · exact .inl h0
      · refine .inr ⟨a, len, cap, hcs, hl, hm, fun i hi => ?_⟩
        have h1 := hel i hi
        rw [List.getElem?_eq_getElem (by omega)] at h1
        rw [Option.bind_eq_some_iff] at h1
        obtain ⟨ds, hds, hd⟩ := h1
        exact ⟨ds, hds, ih _ _ _ _ hd⟩
    · rename_i fs ht
      obtain ⟨xs, m, _, _, _, hlen, hf⟩ := DataW.trod_struct ht h
      refine fits_flds W P n cs _ fun f hmem => ?_
      obtain ⟨i, hi⟩ := List.getElem?_of_mem hmem
      have hi' : fs[i]? = some f := by simpa using hi
      have hx := hf i f hi'
      have hlt : i < xs.length := by
        have := (List.getElem?_eq_some_iff.1 hi).1
        simp at this; omega
      rw [List.getElem?_eq_getElem hlt] at hx
      exact ih _ _ _ _ hx
    · trivial

theorem fits_Trod {H : Type} {enc : TypeId × Value → H} {P : Program} {W : World} {sp : Nat → Bool} {held : Bool} {t : TypeId} {v : Value} {d : DataW H} {ps : List MemPlace} (h : DataW.Trod enc P W 0 sp held t v d ps) (n : Nat) {s : Sh} (hs : shq P n t = s) : Fits W s v.cells.toList := by
  obtain ⟨fuel, hf⟩ := h
  rw [← hs]
  exact fits_of_trod n fuel t _ _ hf

theorem cells?_get {W : World} {a : Addr} {n : Nat} {ds : List Value} (h : W.cells? 0 a n = some ds) : ds.length = n ∧ ∀ j v, ds[j]? = some v → W.cell? (a.add j) = some v := by
  simp only [World.cells?, Nat.zero_le, if_true] at h
  have hl := mapM_some_length h
  simp at hl
  refine ⟨hl, fun j v hj => ?_⟩
  have hlt := (List.getElem?_eq_some_iff.1 hj).1
  have hr : (List.range n)[j]? = some j := List.getElem?_range (by omega)
  have := mapM_some_get h j j hr
  rw [this, hj]

/-- a slice of integers that came in -/
theorem fits_ints {W : World} {k : IntKind} {cs : List Value} (h : Fits W (.sl 1 (.int k)) cs) : ∃ (a : Option Addr) (zs : List Int) (cap : Nat), cs = [.slice a zs.length cap] ∧ zs.length ≤ cap ∧ cap ≤ maxLen ∧ RdS (allHp W) a (zs.map (Value.int k)) ∧ ∀ n ∈ zs, (Lit.int k n).wf = true := by
  rcases h with rfl | ⟨a, len, cap, rfl, hl, hm, hc⟩
  · exact ⟨none, [], 0, rfl, Nat.le_refl _, by unfold maxLen; omega, .inl rfl, by simp⟩
  · have hex : ∀ i, i < len → ∃ n, W.cell? (a.add i) = some (.int k n) ∧ (Lit.int k n).wf = true := fun i hi => by
      obtain ⟨ds, hds, n, hn, hw⟩ := hc i hi
      obtain ⟨_, hg⟩ := cells?_get hds
      have := hg 0 (.int k n) (by rw [hn]; rfl)
      rw [Nat.mul_one] at this
      have e : (a.add i).add 0 = a.add i := by simp [Addr.add]
      rw [e] at this
      exact ⟨n, this, hw⟩
    let f : Nat → Int := fun i => if h : i < len then Classical.choose (hex i h) else 0
    have hf : ∀ i, i < len → W.cell? (a.add i) = some (.int k (f i)) ∧ (Lit.int k (f i)).wf = true := fun i hi => by
      have e : f i = Classical.choose (hex i hi) := dif_pos hi
      rw [e]
      exact Classical.choose_spec (hex i hi)
    refine ⟨some a, (List.range len).map f, cap, by simp, by simpa using hl, hm, rdS_cells fun i v hv => ?_, fun n hn => ?_⟩
    · simp only [List.getElem?_map, Option.map_eq_some_iff] at hv
      obtain ⟨n, ⟨j, hj, rfl⟩, rfl⟩ := hv
      have hi : i < len := by have := (List.getElem?_eq_some_iff.1 hj).1; simpa using this
      have : j = i := by rw [List.getElem?_range hi] at hj; exact (Option.some.inj hj).symm
      subst this
      exact (hf j hi).1
    · obtain ⟨i, hi, rfl⟩ := List.mem_map.1 hn
      exact (hf i (List.mem_range.1 hi)).2

theorem wf_u8 {n : Int} (h : (Lit.int .u8 n).wf = true) : ∃ c : UInt8, n = c.toNat := by
  have hb : 0 ≤ n ∧ n < 256 := by
    simp [Lit.wf, IntKind.min, IntKind.max, IntKind.signed, IntKind.bits] at h
    omega
  exact ⟨UInt8.ofNat n.toNat, by simp only [UInt8.toNat_ofNat']; omega⟩
theorem wf_i64 {n : Int} (h : (Lit.int .i64 n).wf = true) : -9223372036854775808 ≤ n ∧ n ≤ 9223372036854775807 := by
  simp [Lit.wf, IntKind.min, IntKind.max, IntKind.signed, IntKind.bits] at h
  omega
theorem wf_u32 {n : Int} (h : (Lit.int .u32 n).wf = true) : 0 ≤ n ∧ n ≤ 4294967295 := by
  simp [Lit.wf, IntKind.min, IntKind.max, IntKind.signed, IntKind.bits] at h
  omega
theorem wf_u64 {n : Int} (h : (Lit.int .u64 n).wf = true) : 0 ≤ n ∧ n ≤ 18446744073709551615 := by
  simp [Lit.wf, IntKind.min, IntKind.max, IntKind.signed, IntKind.bits] at h
  omega

/-- a slice of bytes that came in -/
theorem fits_bytes {W : World} {cs : List Value} (h : Fits W (.sl 1 (.int .u8)) cs) : ∃ (a : Option Addr) (l : List UInt8) (cap : Nat), cs = [.slice a l.length cap] ∧ l.length ≤ cap ∧ cap ≤ maxLen ∧ RdS (allHp W) a (bv l) := by
  obtain ⟨a, zs, cap, rfl, hl, hm, hR, hw⟩ := fits_ints h
  have e : bv (zs.map fun n => UInt8.ofNat n.toNat) = zs.map (Value.int .u8) := by
    simp only [bv, List.map_map]
    apply List.map_congr_left
    intro n hn
    obtain ⟨c, rfl⟩ := wf_u8 (hw n hn)
    simp
  exact ⟨a, zs.map fun n => UInt8.ofNat n.toNat, cap, by simp, by simpa using hl, hm, by rw [e]; exact hR⟩

theorem fits_int {W : World} {k : IntKind} {v : Value} (h : Fits W (.int k) [v]) : ∃ n, v = .int k n ∧ (Lit.int k n).wf = true := by
  obtain ⟨n, hn, hw⟩ := h
  cases hn
  exact ⟨n, rfl, hw⟩

theorem one_cell {v : Value} (h : ∀ cs, v ≠ .agg cs) : v.cells.toList = [v] := by
  cases v <;> first | rfl | exact absurd rfl (h _)
end Go.X
/- The engine: strings as lists of bytes. -/
set_option linter.unusedVariables false
set_option linter.unusedSimpArgs false
namespace Go.X
open Go Go.RowKit
theorem RdS.suf {M : Hp} {a : Option Addr} {ys : List Value} (L : Hp) (h : RdS M a ys) : RdS (L ++ M) a ys := h.mono fun _ hx => List.mem_append_right _ hx
theorem TC.drawM {P : Program} {N : Nat} {z : World} {Q : Exit → Act → World → Prop} {ops : Array Oper} {E : Env} {M : Hp} {id : Nat} (hm : P.follows .mixedOrders = true) (h : TA P N z ops Q M ops.size (Array.replicate ops.size false) E M) : TC P N z Q (.region id ops true) E M := TC.draw M hm h
theorem rdS_z {M : Hp} {b i m : Nat} {e : TypeId} (hi : M[i]? = some (b, row e (zrep [Value.int .u8 0] m))) : RdS M (some ⟨b, 0, none⟩) (bv (List.replicate m 0)) := by
  rw [zrep_bytes] at hi
  exact rd_all (sp := []) (by rw [List.append_nil]; exact hi)
theorem ofL_append (a b : List UInt8) : ofL a ++ ofL b = ofL (a ++ b) := by
  apply ByteArray.ext
  rw [ByteArray.data_append]
  simp [ofL]
theorem ofL_extract (l : List UInt8) (i j : Nat) : (ofL l).extract i j = ofL ((l.take j).drop i) := by
  apply ByteArray.ext
  rw [ByteArray.data_extract]
  simp [ofL, List.extract_eq_take_drop, List.drop_take]
section
variable {P : Program} {N : Nat} {z : World} {E : Env} {M : Hp}
variable {dst : Option Tmp} {ty : TypeId} {pos : String} {af : Array Edge} {gu : Option (Nat × Bool)} {t yt : TypeId} {x y : Operand}
theorem Val.addL {a b : List UInt8} (hx : ev E x = some (.string (ofL a))) (hy : ev E y = some (.string (ofL b))) (hl : a.length + b.length ≤ 9223372036854775807) : Val P N z E M ⟨dst, .binOp .add t x y yt, ty, pos, af, gu⟩ (.string (ofL (a ++ b))) := by
  rw [← ofL_append]
  exact Val.addS hx hy (by simpa using hl)
theorem Val.eqlL {a b : List UInt8} (hx : ev E x = some (.string (ofL a))) (hy : ev E y = some (.string (ofL b))) : Val P N z E M ⟨dst, .binOp .eql t x y yt, ty, pos, af, gu⟩ (.bool (decide (a = b))) := by
  have h := Val.eqlS (P := P) (N := N) (z := z) (M := M) (dst := dst) (t := t) (yt := yt) (ty := ty) (pos := pos) (af := af) (gu := gu) hx hy
  rw [str_beq, ofL_toList, ofL_toList] at h
  exact h
theorem Val.neqL {a b : List UInt8} (hx : ev E x = some (.string (ofL a))) (hy : ev E y = some (.string (ofL b))) : Val P N z E M ⟨dst, .binOp .neq t x y yt, ty, pos, af, gu⟩ (.bool (!decide (a = b))) := by
  have h := Val.neqS (P := P) (N := N) (z := z) (M := M) (dst := dst) (t := t) (yt := yt) (ty := ty) (pos := pos) (af := af) (gu := gu) hx hy
  rw [str_beq, ofL_toList, ofL_toList] at h
  exact h
theorem Val.lenL {l : List UInt8} {at_ : Array TypeId} (hx : ev E x = some (.string (ofL l))) (ha0 : at_[0]? = some t) (ht : P.underlying t = some .string) :
    Val P N z E M ⟨dst, .call ⟨.builtin .len, #[x], at_⟩, ty, pos, af, gu⟩ (.int .i64 l.length) := by
  have h := Val.lenStr (P := P) (N := N) (z := z) (M := M) (dst := dst) (ty := ty) (pos := pos) (af := af) (gu := gu) hx ha0 ht
  rw [ofL_size] at h
  exact h
theorem Val.sliceL {l : List UInt8} {i j : Nat} {lo hi : Option Operand} {il ih : Int} (hx : ev E x = some (.string (ofL l))) (ht : P.underlying t = some .string)
    (hlo : bnd E 0 lo = some il) (hhi : bnd E l.length hi = some ih) (hil : il = (i : Int)) (hih : ih = (j : Int)) (hij : i ≤ j) (hj : j ≤ l.length) :
    Val P N z E M ⟨dst, .slice t x lo hi none, ty, pos, af, gu⟩ (.string (ofL ((l.take j).drop i))) := by
  rw [← ofL_extract]
  exact Val.sliceStr hx ht hlo (by rw [ofL_size]; exact hhi) hil hih hij (by rw [ofL_size]; exact hj)
theorem Val.indexL {l : List UInt8} {k : IntKind} {m : Int} {i : Nat} (hx : ev E x = some (.string (ofL l))) (hy : ev E y = some (.int k m)) (ht : P.underlying t = some .string) (hm : m = (i : Int)) (hi : i < l.length) :
    Val P N z E M ⟨dst, .index t x y, ty, pos, af, gu⟩ (.int .u8 (l.getD i 0).toNat) :=
  Val.indexS hx hy ht hm (by
    have h : i < (ofL l).size := by rw [ofL_size]; exact hi
    rw [getElem?_pos (ofL l) i h]
    simp [ofL, ByteArray.getElem_eq_getElem_data, List.getD_eq_getElem?_getD, hi])
end
end Go.X
/- The engine: short forms for regions whose order is drawn. -/
set_option linter.unusedVariables false
namespace Go.X
open Go Go.RowKit
/-- n marks, those that stand in a number -/
def ls (n m : Nat) : Array Bool := ((List.range n).map fun i => m.testBit i).toArray
section
variable {P : Program} {N : Nat} {z : World} {Q : Exit → Act → World → Prop} {E : Env} {M Mro : Hp} {ops : Array Oper} {fuel n m : Nat}
theorem TC.drawL {id : Nat} (Mro : Hp) (hm : P.follows .mixedOrders = true) (n : Nat) (h : TA P N z ops Q Mro ops.size (ls n 0) E M) (h0 : Array.replicate ops.size false = ls n 0 := by kernel_rfl) : TC P N z Q (.region id ops true) E M :=
  TC.draw Mro hm (h0 ▸ h)
theorem TC.drawLM {id : Nat} (hm : P.follows .mixedOrders = true) (n : Nat) (h : TA P N z ops Q M ops.size (ls n 0) E M) (h0 : Array.replicate ops.size false = ls n 0 := by kernel_rfl) : TC P N z Q (.region id ops true) E M :=
  TC.draw M hm (h0 ▸ h)
theorem TA.tk (i m' : Nat) {o : Oper} {d : Nat} {v : Value} (hi : ops[i]? = some o) (hg : o.guard = none) (hd : o.dst = some d) (h : Val P N z E Mro o v) (k : TA P N z ops Q Mro fuel (ls n m') ((d, v) :: E) M)
    (hN : d < N := by exact Nat.le_of_ble_eq_true rfl) (hs : Region.noSelect ops = true := by kernel_rfl) (hf : Region.free .any ops (ls n m) i = true := by kernel_rfl) (hr : (Region.ready .any ops (ls n m)).contains i = true := by kernel_rfl)
    (hl : (ls n m).setIfInBounds i true = ls n m' := by kernel_rfl) (hro : ∀ w, Own z w M → Own z w Mro := by repeat (first | exact Go.X.ro_refl | exact Go.X.ro_pre | refine Go.X.ro_tail ?_ | refine Go.X.ro_app ?_)) : TA P N z ops Q Mro (fuel + 1) (ls n m) E M :=
  TA.take i hi hg hd hN hs hf hr hl hro h k
theorem TA.gtk (i m' : Nat) {o : Oper} {d j dj : Nat} {want g : Bool} {v : Value} (hi : ops[i]? = some o) (hg : o.guard = some (j, want)) (hd : o.dst = some d) (hj : (ops[j]?).bind (·.dst) = some dj) (hb : look E dj = some (.bool g)) (h : g = want → Val P N z E Mro o v) (k : TA P N z ops Q Mro fuel (ls n m') ((d, gd g want v) :: E) M)
    (hN : d < N := by exact Nat.le_of_ble_eq_true rfl) (hM : dj < N := by exact Nat.le_of_ble_eq_true rfl) (hs : Region.noSelect ops = true := by kernel_rfl) (hf : Region.free .any ops (ls n m) i = true := by kernel_rfl) (hr : (Region.ready .any ops (ls n m)).contains i = true := by kernel_rfl)
    (hl : (ls n m).setIfInBounds i true = ls n m' := by kernel_rfl) (hro : ∀ w, Own z w M → Own z w Mro := by repeat (first | exact Go.X.ro_refl | exact Go.X.ro_pre | refine Go.X.ro_tail ?_ | refine Go.X.ro_app ?_)) : TA P N z ops Q Mro (fuel + 1) (ls n m) E M :=
  TA.gtake i hi hg hd hN hj hM hb hs hf hr hl hro h k
theorem TA.tkY (i m' : Nat) {o : Oper} {d j dj : Nat} {want : Bool} {v : Value} (hi : ops[i]? = some o) (hg : o.guard = some (j, want)) (hd : o.dst = some d) (hj : (ops[j]?).bind (·.dst) = some dj) (hb : look E dj = some (.bool want)) (h : Val P N z E Mro o v) (k : TA P N z ops Q Mro fuel (ls n m') ((d, v) :: E) M)
    (hN : d < N := by exact Nat.le_of_ble_eq_true rfl) (hM : dj < N := by exact Nat.le_of_ble_eq_true rfl) (hs : Region.noSelect ops = true := by kernel_rfl) (hf : Region.free .any ops (ls n m) i = true := by kernel_rfl) (hr : (Region.ready .any ops (ls n m)).contains i = true := by kernel_rfl)
    (hl : (ls n m).setIfInBounds i true = ls n m' := by kernel_rfl) (hro : ∀ w, Own z w M → Own z w Mro := by repeat (first | exact Go.X.ro_refl | exact Go.X.ro_pre | refine Go.X.ro_tail ?_ | refine Go.X.ro_app ?_)) : TA P N z ops Q Mro (fuel + 1) (ls n m) E M :=
  TA.takeYes i hi hg hd hN hj hM hb hs hf hr hl hro h k
theorem TA.tkP (i m' : Nat) {o : Oper} {d j dj : Nat} {want b : Bool} (hi : ops[i]? = some o) (hg : o.guard = some (j, want)) (hd : o.dst = some d) (hj : (ops[j]?).bind (·.dst) = some dj) (hb : look E dj = some (.bool b)) (hne : (b == want) = false) (k : TA P N z ops Q Mro fuel (ls n m') ((d, undef) :: E) M)
    (hN : d < N := by exact Nat.le_of_ble_eq_true rfl) (hM : dj < N := by exact Nat.le_of_ble_eq_true rfl) (hs : Region.noSelect ops = true := by kernel_rfl) (hf : Region.free .any ops (ls n m) i = true := by kernel_rfl) (hr : (Region.ready .any ops (ls n m)).contains i = true := by kernel_rfl)
    (hl : (ls n m).setIfInBounds i true = ls n m' := by kernel_rfl) (hro : ∀ w, Own z w M → Own z w Mro := by repeat (first | exact Go.X.ro_refl | exact Go.X.ro_pre | refine Go.X.ro_tail ?_ | refine Go.X.ro_app ?_)) : TA P N z ops Q Mro (fuel + 1) (ls n m) E M :=
  TA.takePass i hi hg hd hN hj hM hb hne hs hf hr hl hro k
theorem TA.tkU (i m' : Nat) {o : Oper} {d j dj : Nat} {want : Bool} (hi : ops[i]? = some o) (hg : o.guard = some (j, want)) (hd : o.dst = some d) (hj : (ops[j]?).bind (·.dst) = some dj) (hb : look E dj = some undef) (k : TA P N z ops Q Mro fuel (ls n m') ((d, undef) :: E) M)
    (hN : d < N := by exact Nat.le_of_ble_eq_true rfl) (hM : dj < N := by exact Nat.le_of_ble_eq_true rfl) (hs : Region.noSelect ops = true := by kernel_rfl) (hf : Region.free .any ops (ls n m) i = true := by kernel_rfl) (hr : (Region.ready .any ops (ls n m)).contains i = true := by kernel_rfl)
    (hl : (ls n m).setIfInBounds i true = ls n m' := by kernel_rfl) (hro : ∀ w, Own z w M → Own z w Mro := by repeat (first | exact Go.X.ro_refl | exact Go.X.ro_pre | refine Go.X.ro_tail ?_ | refine Go.X.ro_app ?_)) : TA P N z ops Q Mro (fuel + 1) (ls n m) E M :=
  TA.takePassU i hi hg hd hN hj hM hb hs hf hr hl hro k
theorem TO.dz {i : Nat} (m' : Nat) {o : Oper} {R : Value → Hp → Prop} (d : Option Nat) (hi : ops[i]? = some o) (hd : o.dst = d) (hg : o.guard = none) (hN : ltN d N = true) (h : Does P N z E M o R)
    (k : ∀ v M', R v M' → (∀ w, Own z w M' → Own z w Mro) ∧ TA P N z ops Q Mro fuel (ls n m') (putE d v E) M') (hl : (ls n m).setIfInBounds i true = ls n m' := by kernel_rfl) : TO P N z ops Q Mro fuel (ls n m) i E M := TO.does d hi hd hg hN hl h k
theorem TO.dzY {i : Nat} (m' : Nat) {j dj : Nat} {want : Bool} {o : Oper} {R : Value → Hp → Prop} (d : Option Nat) (hi : ops[i]? = some o) (hd : o.dst = d) (hg : o.guard = some (j, want)) (hj : (ops[j]?).bind (·.dst) = some dj) (hb : look E dj = some (.bool want)) (hN : ltN d N = true) (h : Does P N z E M o R)
    (k : ∀ v M', R v M' → (∀ w, Own z w M' → Own z w Mro) ∧ TA P N z ops Q Mro fuel (ls n m') (putE d v E) M') (hM : dj < N := by exact Nat.le_of_ble_eq_true rfl) (hl : (ls n m).setIfInBounds i true = ls n m' := by kernel_rfl) : TO P N z ops Q Mro fuel (ls n m) i E M := TO.doesYes d hi hd hg hj hM hb hN hl h k
theorem TO.ps {i : Nat} (m' : Nat) {j dj : Nat} {want b : Bool} {o : Oper} (d : Option Nat) (hi : ops[i]? = some o) (hd : o.dst = d) (hg : o.guard = some (j, want)) (hj : (ops[j]?).bind (·.dst) = some dj) (hb : look E dj = some (.bool b)) (hne : (b == want) = false) (hN : ltN d N = true) (k : TA P N z ops Q Mro fuel (ls n m') (putE d undef E) M)
    (hM : dj < N := by exact Nat.le_of_ble_eq_true rfl) (hl : (ls n m).setIfInBounds i true = ls n m' := by kernel_rfl) (hro : ∀ w, Own z w M → Own z w Mro := by repeat (first | exact Go.X.ro_refl | exact Go.X.ro_pre | refine Go.X.ro_tail ?_ | refine Go.X.ro_app ?_)) : TO P N z ops Q Mro fuel (ls n m) i E M := TO.pass d hi hd hg hj hM hb hne hN hl hro k
theorem roK {A : Prop} (h : A) (hro : ∀ w, Own z w M → Own z w Mro := by repeat (first | exact Go.X.ro_refl | exact Go.X.ro_pre | refine Go.X.ro_tail ?_ | refine Go.X.ro_app ?_)) : (∀ w, Own z w M → Own z w Mro) ∧ A := ⟨hro, h⟩
end
end Go.X
/- The engine: regions whose order is drawn and that write what they read: the condition on the world may weaken at some operations. -/
set_option linter.unusedVariables false
set_option linter.unusedSimpArgs false
namespace Go.X
open Go Go.RowKit
section
variable {P : Program} {ops : Array Oper} {Q : Exit → Act → World → Prop} {md : Region.Mode}
/-- has one of these come up? -/
def came (es : List Nat) (l : Array Bool) : Bool := es.any fun e => l.getD e false
/-- the condition by then -/
def Sx (es : List Nat) (Ss Sw : World → Prop) (l : Array Bool) : World → Prop := if came es l = true then Sw else Ss
def wpAnyG (P : Program) (md : Region.Mode) (ops : Array Oper) (Q : Exit → Act → World → Prop) (S : Array Bool → World → Prop) : Nat → Array Bool → Act → World → Prop
  | 0, listed, a, w => Region.ready md ops listed = [] ∧ Q .normal a w
  | fuel + 1, listed, a, w =>
    (Region.ready md ops listed = [] → Q .normal a w) ∧
    ∀ i ∈ Region.ready md ops listed, wpOp P ops Q i (fun a' w' => S (listed.setIfInBounds i true) w' ∧ wpAnyG P md ops Q S fuel (listed.setIfInBounds i true) a' w') a w
theorem wpAny_of_G {S : Array Bool → World → Prop} : ∀ (fuel : Nat) (listed : Array Bool) (a : Act) (w : World), wpAnyG P md ops Q S fuel listed a w → wpAny P md ops Q fuel listed a w
  | 0, _, _, _, h => h
  | fuel + 1, _, _, _, h => ⟨h.1, fun i hi => wpOp_mono (fun a' w' h' => wpAny_of_G fuel _ a' w' h'.2) (h.2 i hi)⟩

theorem came_set {es : List Nat} {l : Array Bool} {j : Nat} (h : j ∉ es) : came es (l.setIfInBounds j true) = came es l := by
  unfold came
  apply Bool.eq_iff_iff.2
  simp only [List.any_eq_true]
  constructor
  · rintro ⟨e, he, h1⟩
    have hje : j ≠ e := fun hje => h (by rw [hje]; exact he)
    rw [getD_set_ne false hje] at h1
    exact ⟨e, he, h1⟩
  · rintro ⟨e, he, h1⟩
    have hje : j ≠ e := fun hje => h (by rw [hje]; exact he)
    exact ⟨e, he, by rw [getD_set_ne false hje]; exact h1⟩
theorem came_mono {es : List Nat} {l : Array Bool} {j : Nat} (h : came es l = true) : came es (l.setIfInBounds j true) = true := by
  unfold came at *
  simp only [List.any_eq_true] at *
  obtain ⟨e, he, h1⟩ := h
  exact ⟨e, he, getD_set_true h1⟩

theorem wpAnyG_first {es : List Nat} {Ss Sw : World → Prop} {i : Nat} {oi : Oper} {v : Value} (hi : ops[i]? = some oi) (hsel : ∀ (j : Nat) (o : Oper) cs b, ops[j]? = some o → o.op ≠ .select cs b)
    (hQ : ∀ c a w, Q (.panic c) (a.put oi.dst v) w → Q (.panic c) a w) (hie : i ∉ es) :
    ∀ (fuel : Nat) (listed : Array Bool) (a : Act) (w : World),
      (∀ j oj, ops[j]? = some oj → j ≠ i → listed.getD j true = false → (∀ e ∈ oj.after, Region.binds md e = true → e.on ≠ i) → oi.apart ops oj = true) →
      (came es listed = true ∨ ∀ e ∈ es, ∀ oe, ops[e]? = some oe → ∃ x ∈ oe.after, Region.binds md x = true ∧ x.on = i) →
      i ∈ Region.ready md ops listed → YieldsIf P ops (Sx es Ss Sw listed) oi v a → Sx es Ss Sw listed w →
      wpAnyG P md ops Q (Sx es Ss Sw) fuel (listed.setIfInBounds i true) (a.put oi.dst v) w → wpAnyG P md ops Q (Sx es Ss Sw) (fuel + 1) listed a w := by
  have hSi : ∀ l : Array Bool, Sx es Ss Sw (l.setIfInBounds i true) = Sx es Ss Sw l := fun l => by unfold Sx; rw [came_set hie]
  intro fuel
  induction fuel with
  | zero =>
    intro listed a w _ _ hr hy hS H
    refine ⟨fun h => (by rw [h] at hr; cases hr), fun j hj => ?_⟩
    by_cases hji : j = i
    · subst hji; exact hy.wpOp hi hS ⟨by rw [hSi]; exact hS, H⟩
    · have := ready_mono hj hji
      rw [H.1] at this
      cases this
  | succ fuel ih =>
    intro listed a w hfree hes hr hy hS H
    refine ⟨fun h => (by rw [h] at hr; cases hr), fun j hj => ?_⟩
    by_cases hji : j = i
    · subst hji; exact hy.wpOp hi hS ⟨by rw [hSi]; exact hS, H⟩
    · have h1 := H.2 j (ready_mono hj hji)
      obtain ⟨hjun, oj, hoj, hall⟩ := mem_ready.1 hj
      have hnot : ∀ e ∈ oj.after, Region.binds md e = true → e.on ≠ i := fun e he hb heq => by
        have h1 := hall e he hb
        have h0 := (mem_ready.1 hr).1
        rw [heq] at h1
        rcases Nat.lt_or_ge i listed.size with h' | h'
        · simp [h'] at h0 h1; rw [h0] at h1; cases h1
        · simp [Array.getElem?_eq_none h'] at h1
      have hsame : Sx es Ss Sw (listed.setIfInBounds j true) = Sx es Ss Sw listed := by
        rcases hes with hc | hw
        · unfold Sx; rw [came_mono hc, hc]
        · have hje : j ∉ es := fun hm => by
            obtain ⟨x, hx, hb, ho⟩ := hw j hm oj hoj
            exact hnot x hx hb ho
          unfold Sx; rw [came_set hje]
      have hes' : came es (listed.setIfInBounds j true) = true ∨ ∀ e ∈ es, ∀ oe, ops[e]? = some oe → ∃ x ∈ oe.after, Region.binds md x = true ∧ x.on = i := hes.imp came_mono id
      have h2 := wpOp_putIf hoj (hfree j oj hoj hji hjun hnot) (fun cs b => hsel i oi cs b hi) (fun cs b => hsel j oj cs b hoj) hQ hy h1
      have hfree' : ∀ k ok, ops[k]? = some ok → k ≠ i → (listed.setIfInBounds j true).getD k true = false →
          (∀ e ∈ ok.after, Region.binds md e = true → e.on ≠ i) → oi.apart ops ok = true := fun k ok hk hki hun hno => by
        refine hfree k ok hk hki ?_ hno
        by_cases hjk : j = k
        · subst hjk; exact hjun
        · rw [getD_set_ne true hjk] at hun; exact hun
      refine wpOp_mono (fun a' w' h3 => ?_) h2
      have hS3 : Sx es Ss Sw (listed.setIfInBounds j true) w' := by
        have := h3.2.1
        rw [Array.setIfInBounds_comm _ _ (Ne.symm hji), hSi] at this
        exact this
      refine ⟨hS3, ih (listed.setIfInBounds j true) a' w' hfree' hes' (ready_mono hr (Ne.symm hji)) (by rw [hsame]; exact h3.1) hS3 ?_⟩
      rw [Array.setIfInBounds_comm _ _ hji]
      exact h3.2.2
end
end Go.X
namespace Go.X
open Go Go.RowKit
def okB (ops : Array Oper) (es : List Nat) (l : Array Bool) (i : Nat) : Bool :=
  !es.contains i && (came es l || es.all fun e => match ops[e]? with | some oe => oe.after.any (fun x => Region.binds .any x && x.on == i) | none => true)
theorem okB_spec {ops : Array Oper} {es : List Nat} {l : Array Bool} {i : Nat} (h : okB ops es l i = true) :
    i ∉ es ∧ (came es l = true ∨ ∀ e ∈ es, ∀ oe, ops[e]? = some oe → ∃ x ∈ oe.after, Region.binds .any x = true ∧ x.on = i) := by
  simp only [okB, Bool.and_eq_true, Bool.or_eq_true, Bool.not_eq_true', List.all_eq_true] at h
  refine ⟨fun hm => by simp [hm] at h, h.2.imp id fun h2 e he oe hoe => ?_⟩
  have h3 := h2 e he
  rw [hoe] at h3
  obtain ⟨x, hx, hb⟩ := Array.any_eq_true'.1 h3
  simp only [Bool.and_eq_true, beq_iff_eq] at hb
  exact ⟨x, hx, hb.1, hb.2⟩
section
variable {P : Program} {N : Nat} {z : World} {Q : Exit → Act → World → Prop} {E : Env} {M Ms Mw : Hp} {ops : Array Oper} {fuel n m : Nat} {es : List Nat}
def TG (P : Program) (N : Nat) (z : World) (ops : Array Oper) (Q : Exit → Act → World → Prop) (es : List Nat) (Ms Mw : Hp) (fuel : Nat) (listed : Array Bool) (E : Env) (M : Hp) : Prop :=
  ∀ a w, Has N E a → Own z w M → wpAnyG P .any ops (NoPanic Q) (Sx es (fun w => Own z w Ms) (fun w => Own z w Mw)) fuel listed a w
theorem Sx_own {c : Bool} {l : Array Bool} (hc : came es l = c) : Sx es (fun w => Own z w Ms) (fun w => Own z w Mw) l = fun w => Own z w (bif c then Mw else Ms) := by
  subst hc
  unfold Sx
  cases came es l <;> rfl
theorem TC.drawG {id : Nat} (es : List Nat) (Mw : Hp) (hm : P.follows .mixedOrders = true) (n : Nat) (h : TG P N z ops Q es M Mw ops.size (ls n 0) E M) (h0 : Array.replicate ops.size false = ls n 0 := by kernel_rfl) : TC P N z Q (.region id ops true) E M :=
  fun a w ha hw => wp_region_noPanic (wp_region_any hm (wpAny_of_G _ _ _ _ (h0 ▸ h a _ ha (hw.drawn _))))
theorem TG.gen {listed : Array Bool} {d : Nat} {b : Bool} (k : ∀ g, g = b → TG P N z ops Q es Ms Mw fuel listed ((d, .bool g) :: E) M) : TG P N z ops Q es Ms Mw fuel listed ((d, .bool b) :: E) M := k b rfl
theorem TG.put (c : Bool) (i m' : Nat) {o : Oper} {d : Nat} {v : Value} (hi : ops[i]? = some o) (hd : o.dst = some d) (hN : d < N)
    (hc : came es (ls n m) = c) (hk : okB ops es (ls n m) i = true) (hs : Region.noSelect ops = true) (hf : Region.free .any ops (ls n m) i = true) (hr : (Region.ready .any ops (ls n m)).contains i = true) (hl : (ls n m).setIfInBounds i true = ls n m')
    (hro : ∀ w, Own z w M → Own z w (bif c then Mw else Ms))
    (hy : ∀ a, Has N E a → YieldsIf P ops (fun w => Own z w (bif c then Mw else Ms)) o v a) (k : TG P N z ops Q es Ms Mw fuel (ls n m') ((d, v) :: E) M) : TG P N z ops Q es Ms Mw (fuel + 1) (ls n m) E M := fun a w ha hw => by
  obtain ⟨h1, h2⟩ := okB_spec hk
  refine wpAnyG_first hi (Region.noSelect_spec hs) (fun c a w h => h) h1 fuel _ a w (Region.free_spec hi hf) h2 (by simpa using hr) (by rw [Sx_own hc]; exact hy a ha) (by rw [Sx_own hc]; exact hro w hw) ?_
  rw [hl, hd]
  exact k _ w (ha.put hN v) hw
theorem TG.tk (c : Bool) (i m' : Nat) {o : Oper} {d : Nat} {v : Value} (hi : ops[i]? = some o) (hg : o.guard = none) (hd : o.dst = some d) (h : Val P N z E (bif c then Mw else Ms) o v) (k : TG P N z ops Q es Ms Mw fuel (ls n m') ((d, v) :: E) M)
    (hN : d < N := by exact Nat.le_of_ble_eq_true rfl) (hc : came es (ls n m) = c := by kernel_rfl) (hk : okB ops es (ls n m) i = true := by kernel_rfl) (hs : Region.noSelect ops = true := by kernel_rfl) (hf : Region.free .any ops (ls n m) i = true := by kernel_rfl) (hr : (Region.ready .any ops (ls n m)).contains i = true := by kernel_rfl) (hl : (ls n m).setIfInBounds i true = ls n m' := by kernel_rfl) (hro : ∀ w, Own z w M → Own z w (bif c then Mw else Ms) := by repeat (first | exact Go.X.ro_refl | exact Go.X.ro_pre | refine Go.X.ro_tail ?_ | refine Go.X.ro_app ?_)) : TG P N z ops Q es Ms Mw (fuel + 1) (ls n m) E M :=
  TG.put c i m' hi hd hN hc hk hs hf hr hl hro (fun a ha => .inl ⟨by simp [Region.wanted, hg], fun w hw => h a w ha hw⟩) k
theorem TG.all {listed : Array Bool} {rs : List Nat} (hr : Region.ready .any ops listed = rs) (hne : rs ≠ [])
    (h : ∀ i ∈ rs, ∀ a w, Has N E a → Own z w M → wpOp P ops (NoPanic Q) i (fun a' w' => Sx es (fun w => Own z w Ms) (fun w => Own z w Mw) (listed.setIfInBounds i true) w' ∧ wpAnyG P .any ops (NoPanic Q) (Sx es (fun w => Own z w Ms) (fun w => Own z w Mw)) fuel (listed.setIfInBounds i true) a' w') a w) : TG P N z ops Q es Ms Mw (fuel + 1) listed E M :=
  fun a w ha hw => ⟨fun h0 => absurd (hr ▸ h0) hne, hr ▸ fun i hi => h i hi a w ha hw⟩
def TP (P : Program) (N : Nat) (z : World) (ops : Array Oper) (Q : Exit → Act → World → Prop) (es : List Nat) (Ms Mw : Hp) (fuel : Nat) (listed : Array Bool) (i : Nat) (E : Env) (M : Hp) : Prop :=
  ∀ a w, Has N E a → Own z w M → wpOp P ops (NoPanic Q) i (fun a' w' => Sx es (fun w => Own z w Ms) (fun w => Own z w Mw) (listed.setIfInBounds i true) w' ∧ wpAnyG P .any ops (NoPanic Q) (Sx es (fun w => Own z w Ms) (fun w => Own z w Mw)) fuel (listed.setIfInBounds i true) a' w') a w
theorem TG.one (i : Nat) (hr : Region.ready .any ops (ls n m) = [i]) (h : TP P N z ops Q es Ms Mw fuel (ls n m) i E M) : TG P N z ops Q es Ms Mw (fuel + 1) (ls n m) E M :=
  TG.all hr (by simp) fun j hj => by simp at hj; subst hj; exact h
theorem TG.two (i j : Nat) (hr : Region.ready .any ops (ls n m) = [i, j]) (h : TP P N z ops Q es Ms Mw fuel (ls n m) i E M) (h' : TP P N z ops Q es Ms Mw fuel (ls n m) j E M) : TG P N z ops Q es Ms Mw (fuel + 1) (ls n m) E M :=
  TG.all hr (by simp) fun k hk => by
    simp at hk
    rcases hk with rfl | rfl
    · exact h
    · exact h'
theorem TG.three (i j l : Nat) (hr : Region.ready .any ops (ls n m) = [i, j, l]) (h : TP P N z ops Q es Ms Mw fuel (ls n m) i E M) (h' : TP P N z ops Q es Ms Mw fuel (ls n m) j E M) (h'' : TP P N z ops Q es Ms Mw fuel (ls n m) l E M) : TG P N z ops Q es Ms Mw (fuel + 1) (ls n m) E M :=
  TG.all hr (by simp) fun k hk => by
    simp at hk
    rcases hk with rfl | rfl | rfl
    · exact h
    · exact h'
    · exact h''
theorem TG.done (hr : Region.ready .any ops (ls n m) = []) (h : AtX N z Q .normal E M) : ∀ fuel, TG P N z ops Q es Ms Mw fuel (ls n m) E M
  | 0 => fun a w ha hw => ⟨hr, NoPanic.normal (h a w ha hw)⟩
  | _ + 1 => fun a w ha hw => ⟨fun _ => NoPanic.normal (h a w ha hw), by rw [hr]; simp⟩
theorem TP.dz {i : Nat} (c : Bool) (m' : Nat) {o : Oper} {R : Value → Hp → Prop} (d : Option Nat) (hi : ops[i]? = some o) (hd : o.dst = d) (hg : o.guard = none) (hN : ltN d N = true) (h : Does P N z E M o R)
    (k : ∀ v M', R v M' → (∀ w, Own z w M' → Own z w (bif c then Mw else Ms)) ∧ TG P N z ops Q es Ms Mw fuel (ls n m') (putE d v E) M') (hl : (ls n m).setIfInBounds i true = ls n m' := by kernel_rfl) (hc : came es (ls n m') = c := by kernel_rfl) : TP P N z ops Q es Ms Mw fuel (ls n m) i E M := fun a w ha hw => by
  subst hd
  unfold wpOp
  rw [hi, hl]
  simp only [Region.wanted, hg, if_true]
  refine .inl (h a w _ (NoPanic Q) ha hw fun v M' w' hR ho => ?_)
  obtain ⟨h1, h2⟩ := k v M' hR
  exact ⟨by rw [Sx_own hc]; exact h1 w' ho, h2 _ w' (ha.putE (ltN_spec hN) v) ho⟩
end
end Go.X
/- The engine: a method's contract, said of its object at the front, used where the object stands anywhere. -/
set_option linter.unusedVariables false
namespace Go.X
open Go Go.RowKit
theorem perm_set {α : Type} : ∀ {l : List α} {i : Nat} {x y : α}, l[i]? = some x → (y :: l.eraseIdx i).Perm (l.set i y)
  | [], i, x, y, h => by simp at h
  | a :: l, 0, x, y, h => by simp
  | a :: l, i + 1, x, y, h => by
    simp only [List.eraseIdx_cons_succ, List.set_cons_succ]
    exact (List.Perm.swap _ _ _).trans ((perm_set (by simpa using h)).cons a)
theorem FnC.at {P : Program} {f : FuncId} {args : Array Value} {H : Hp} {ι : Type} {x : Nat × Obj} {y : ι → Nat × Obj} {L : ι → Hp} {R : ι → Value → Prop} (i : Nat) (hi : H[i]? = some x)
    (h : FnC P f args (x :: H.eraseIdx i) (fun v M' => ∃ t, R t v ∧ M' = y t :: (L t ++ H.eraseIdx i))) : FnC P f args H (fun v M' => ∃ t, R t v ∧ M' = L t ++ H.set i (y t)) := fun z w hw => by
  have h1 := h z w (hw.front i hi)
  refine h1.mono fun e w' ⟨v, M', he, ⟨t, hR, hM⟩, ho⟩ => ⟨v, _, he, ⟨t, hR, rfl⟩, ?_⟩
  subst hM
  refine ho.perm ?_
  exact (List.perm_middle.symm).trans ((perm_set hi).append_left _)
theorem FnC.at0 {P : Program} {f : FuncId} {args : Array Value} {H : Hp} {x y : Nat × Obj} {u : Value} (i : Nat) (hi : H[i]? = some x)
    (h : FnC P f args (x :: H.eraseIdx i) (fun v M' => v = u ∧ M' = y :: H.eraseIdx i)) : FnC P f args H (fun v M' => v = u ∧ M' = H.set i y) := fun z w hw => by
  have h1 := h z w (hw.front i hi)
  refine h1.mono fun e w' ⟨v, M', he, ⟨hR, hM⟩, ho⟩ => ⟨v, _, he, ⟨hR, rfl⟩, ?_⟩
  subst hM
  exact ho.perm (perm_set hi)
section
variable {P : Program} {ops : Array Oper} {Q : Exit → Act → World → Prop} {md : Region.Mode}
theorem wpAnyG_any {es : List Nat} {Ss Sw T : World → Prop} {i : Nat} {oi : Oper} {v : Value} (hi : ops[i]? = some oi) (hsel : ∀ (j : Nat) (o : Oper) cs b, ops[j]? = some o → o.op ≠ .select cs b)
    (hQ : ∀ c a w, Q (.panic c) (a.put oi.dst v) w → Q (.panic c) a w) (hie : i ∉ es) (hT : ∀ l w, Sx es Ss Sw l w → T w) :
    ∀ (fuel : Nat) (listed : Array Bool) (a : Act) (w : World),
      (∀ j oj, ops[j]? = some oj → j ≠ i → listed.getD j true = false → (∀ e ∈ oj.after, Region.binds md e = true → e.on ≠ i) → oi.apart ops oj = true) →
      i ∈ Region.ready md ops listed → YieldsIf P ops T oi v a → Sx es Ss Sw listed w →
      wpAnyG P md ops Q (Sx es Ss Sw) fuel (listed.setIfInBounds i true) (a.put oi.dst v) w → wpAnyG P md ops Q (Sx es Ss Sw) (fuel + 1) listed a w := by
  have hSi : ∀ l : Array Bool, Sx es Ss Sw (l.setIfInBounds i true) = Sx es Ss Sw l := fun l => by unfold Sx; rw [came_set hie]
  intro fuel
  induction fuel with
  | zero =>
    intro listed a w _ hr hy hS H
    refine ⟨fun h => (by rw [h] at hr; cases hr), fun j hj => ?_⟩
    by_cases hji : j = i
    · subst hji; exact hy.wpOp hi (hT _ _ hS) ⟨by rw [hSi]; exact hS, H⟩
    · have := ready_mono hj hji
      rw [H.1] at this
      cases this
  | succ fuel ih =>
    intro listed a w hfree hr hy hS H
    refine ⟨fun h => (by rw [h] at hr; cases hr), fun j hj => ?_⟩
    by_cases hji : j = i
    · subst hji; exact hy.wpOp hi (hT _ _ hS) ⟨by rw [hSi]; exact hS, H⟩
    · have h1 := H.2 j (ready_mono hj hji)
      obtain ⟨hjun, oj, hoj, hall⟩ := mem_ready.1 hj
      have hnot : ∀ e ∈ oj.after, Region.binds md e = true → e.on ≠ i := fun e he hb heq => by
        have h1 := hall e he hb
        have h0 := (mem_ready.1 hr).1
        rw [heq] at h1
        rcases Nat.lt_or_ge i listed.size with h' | h'
        · simp [h'] at h0 h1; rw [h0] at h1; cases h1
        · simp [Array.getElem?_eq_none h'] at h1
      have h2 := wpOp_putIf hoj (hfree j oj hoj hji hjun hnot) (fun cs b => hsel i oi cs b hi) (fun cs b => hsel j oj cs b hoj) hQ hy h1
      have hfree' : ∀ k ok, ops[k]? = some ok → k ≠ i → (listed.setIfInBounds j true).getD k true = false →
          (∀ e ∈ ok.after, Region.binds md e = true → e.on ≠ i) → oi.apart ops ok = true := fun k ok hk hki hun hno => by
        refine hfree k ok hk hki ?_ hno
        by_cases hjk : j = k
        · subst hjk; exact hjun
        · rw [getD_set_ne true hjk] at hun; exact hun
      refine wpOp_mono (fun a' w' h3 => ?_) h2
      have hS3 : Sx es Ss Sw (listed.setIfInBounds j true) w' := by
        have := h3.2.1
        rw [Array.setIfInBounds_comm _ _ (Ne.symm hji), hSi] at this
        exact this
      refine ⟨hS3, ih (listed.setIfInBounds j true) a' w' hfree' (ready_mono hr (Ne.symm hji)) h3.1 hS3 ?_⟩
      rw [Array.setIfInBounds_comm _ _ hji]
      exact h3.2.2
end
section
variable {P : Program} {N : Nat} {z : World} {Q : Exit → Act → World → Prop} {E : Env} {M Ms Mw : Hp} {ops : Array Oper} {fuel n m : Nat} {es : List Nat}
/-- what no milestone waits for: it reads the weak heap alone -/
theorem TG.tw (c : Bool) (i m' : Nat) {o : Oper} {d : Nat} {v : Value} (hi : ops[i]? = some o) (hg : o.guard = none) (hd : o.dst = some d) (h : Val P N z E Mw o v) (k : TG P N z ops Q es Ms Mw fuel (ls n m') ((d, v) :: E) M)
    (hN : d < N := by exact Nat.le_of_ble_eq_true rfl) (hc : came es (ls n m) = c := by kernel_rfl) (hk : es.contains i = false := by kernel_rfl) (hs : Region.noSelect ops = true := by kernel_rfl) (hf : Region.free .any ops (ls n m) i = true := by kernel_rfl) (hr : (Region.ready .any ops (ls n m)).contains i = true := by kernel_rfl) (hl : (ls n m).setIfInBounds i true = ls n m' := by kernel_rfl) (hro : ∀ w, Own z w M → Own z w (bif c then Mw else Ms) := by repeat (first | exact Go.X.ro_refl | exact Go.X.ro_pre | refine Go.X.ro_tail ?_ | refine Go.X.ro_app ?_)) (hsw : ∀ w, Own z w Ms → Own z w Mw := by repeat (first | exact Go.X.ro_refl | exact Go.X.ro_pre | refine Go.X.ro_tail ?_ | refine Go.X.ro_app ?_)) : TG P N z ops Q es Ms Mw (fuel + 1) (ls n m) E M := fun a w ha hw => by
  refine wpAnyG_any (T := fun w => Own z w Mw) hi (Region.noSelect_spec hs) (fun c a w h => h) (fun hm => by simp [hm] at hk) (fun l w h => ?_) fuel _ a w (Region.free_spec hi hf) (by simpa using hr) (.inl ⟨by simp [Region.wanted, hg], fun w hw => h a w ha hw⟩) (by rw [Sx_own hc]; exact hro w hw) ?_
  · unfold Sx at h; split at h
    · exact h
    · exact hsw w h
  · rw [hl, hd]
    exact k _ w (ha.put hN v) hw
end
end Go.X
/- The engine: rows of values alike (structs, integers, Bools), by place. -/
set_option linter.unusedVariables false
set_option linter.unusedSimpArgs false
namespace Go.X
open Go Go.RowKit
section
variable {α : Type} {f : α → List Value} {s : Nat}
theorem flat_len (hf : ∀ a, (f a).length = s) : ∀ zs : List α, (zs.flatMap f).length = s * zs.length
  | [] => by simp
  | a :: zs => by simp [flat_len hf zs, hf, Nat.mul_add]; omega
theorem flat_drop (hf : ∀ a, (f a).length = s) : ∀ (zs : List α) (k : Nat), (zs.flatMap f).drop (s * k) = (zs.drop k).flatMap f
  | zs, 0 => by simp
  | [], k + 1 => by simp
  | a :: zs, k + 1 => by
    have h := flat_drop hf zs k
    have e : s * (k + 1) = (f a).length + s * k := by rw [hf, Nat.mul_add]; omega
    rw [List.flatMap_cons, e, ← List.drop_drop, List.drop_left, h]
    rfl
theorem flat_take (hf : ∀ a, (f a).length = s) : ∀ (zs : List α) (k : Nat), (zs.flatMap f).take (s * k) = (zs.take k).flatMap f
  | zs, 0 => by simp
  | [], k + 1 => by simp
  | a :: zs, k + 1 => by
    have h := flat_take hf zs k
    have e : s * (k + 1) = (f a).length + s * k := by rw [hf, Nat.mul_add]; omega
    rw [List.flatMap_cons, e, List.take_length_add_append, h]
    rfl
theorem flat_seg (hf : ∀ a, (f a).length = s) {zs : List α} {k : Nat} {a : α} (h : zs[k]? = some a) : ((zs.flatMap f).drop (s * k)).take s = f a := by
  rw [flat_drop hf]
  obtain ⟨hk, rfl⟩ := List.getElem?_eq_some_iff.1 h
  rw [List.drop_eq_getElem_cons hk, List.flatMap_cons]
  rw [List.take_append_of_le_length (by rw [hf]; exact Nat.le_refl _), List.take_of_length_le (by rw [hf]; exact Nat.le_refl _)]
theorem flat_get (hf : ∀ a, (f a).length = s) {zs : List α} {k j : Nat} {a : α} (h : zs[k]? = some a) (hj : j < s) : (zs.flatMap f)[s * k + j]? = (f a)[j]? := by
  rw [← flat_seg hf h, List.getElem?_take, if_pos hj, List.getElem?_drop]
theorem flat_set (hf : ∀ a, (f a).length = s) {zs : List α} {k : Nat} (h : k < zs.length) (a : α) : (zs.flatMap f).take (s * k) ++ f a ++ (zs.flatMap f).drop (s * k + s) = (zs.set k a).flatMap f := by
  have e : s * k + s = s * (k + 1) := by rw [Nat.mul_add]; omega
  rw [e, flat_take hf, flat_drop hf, List.set_eq_take_append_cons_drop, if_pos h]
  simp [List.flatMap_append]
end
section
variable {P : Program} {N : Nat} {z : World} {E : Env} {M : Hp}
variable {dst : Option Tmp} {ty : TypeId} {pos : String} {af : Array Edge} {gu : Option (Nat × Bool)} {t yt : TypeId} {x y : Operand}
theorem Does.storeR {v : Value} {b off n : Nat} {ys ys' : List Value} {T : TypeId} (i : Nat) (hx : ev E x = some (.pointer (some ⟨b, off, none⟩))) (hy : ev E y = some v) (hi : M[i]? = some (b, row T ys))
    (hn : sizQ P t = some n) (hs : v.cells.toList.length = n) (h1 : v.cells.toList.all one = true) (hb : off + n ≤ ys.length) (hr : ys.take off ++ v.cells.toList ++ ys.drop (off + n) = ys') :
    Does P N z E M ⟨dst, .store t x y, ty, pos, af, gu⟩ (fun u M'' => u = undef ∧ M'' = M.set i (b, row T ys')) := by
  subst hr
  refine Does.store hx hy hi hn (by simpa using hs) h1 (by simpa using hb) (?_ : _ = (ys.take off ++ v.cells.toList ++ ys.drop (off + n)).toArray) rfl
  apply Array.ext'
  rw [splice_list _ _ _ (by rw [hs]; simpa using hb), hs]
theorem Val.loadAggR {b o r j n : Nat} {ys vs : List Value} (hx : ev E x = some (.pointer (some ⟨b, r, none⟩))) (ht : aggQ P t = some true) (hn : sizQ P t = some n) (hR : Rd M ⟨b, o, none⟩ ys) (hr : r = o + j) (hv : (ys.drop j).take n = vs) (hs : vs.length = n) :
    Val P N z E M ⟨dst, .load t x, ty, pos, af, gu⟩ (.agg vs.toArray) := fun a w ha hw => by
  subst hr
  have hl := run_loadCells_list (P := P) (w := w) ⟨b, o + j, none⟩ vs (fun q v hq => by
    rw [addr_add, Nat.add_assoc]
    refine hR.at hw ?_
    rw [← hv, List.getElem?_take] at hq
    split at hq
    · rw [List.getElem?_drop] at hq; exact hq
    · cases hq)
  simp only [hs] at hl
  simp [execOp, ha.ev hx, Instr.loadAt, Instr.sureAddr, loadVar, run_isAgg ht, run_sizeOf hn, Result.andThen, hl]
end
/-- values of one cell in a row -/
theorem map_get {α : Type} {f : α → Value} {zs : List α} {k : Nat} {a : α} (h : zs[k]? = some a) : (zs.map f)[k]? = some (f a) := by simp [h]
theorem map_set1 {α : Type} {f : α → Value} {zs : List α} {k : Nat} (h : k < zs.length) (a : α) : (zs.map f).take k ++ [f a] ++ (zs.map f).drop (k + 1) = (zs.set k a).map f := by
  rw [List.set_eq_take_append_cons_drop, if_pos h]
  simp
theorem list_set1 {zs : List Value} {k : Nat} (h : k < zs.length) (a : Value) : zs.take k ++ [a] ++ zs.drop (k + 1) = zs.set k a := by
  rw [List.set_eq_take_append_cons_drop, if_pos h]
  simp
theorem bv_one' (l : List Int) (k : IntKind) : ∀ u ∈ l.map (Value.int k), one u = true := by
  intro u hu
  obtain ⟨n, _, rfl⟩ := List.mem_map.1 hu
  rfl
end Go.X
namespace Go.X
open Go Go.RowKit
theorem Val.capSl {P : Program} {N : Nat} {z : World} {E : Env} {M : Hp} {dst : Option Tmp} {ty : TypeId} {pos : String} {af : Array Edge} {gu : Option (Nat × Bool)} {t e : TypeId} {x : Operand} {p : Option Addr} {l c : Nat} {at_ : Array TypeId} (hx : ev E x = some (.slice p l c)) (ha0 : at_[0]? = some t) (ht : slQ P t = some e) :
    Val P N z E M ⟨dst, .call ⟨.builtin .cap, #[x], at_⟩, ty, pos, af, gu⟩ (.int .i64 c) := fun a w ha hw => by
  simp [execOp, resolve, invoke, builtin, Builtin.cap_, ha.ev hx, ha0, run_underlying (slQ_spec ht), Result.andThen, goInt]
end Go.X
namespace Go.X
open Go Go.RowKit
section
variable {P : Program} {N : Nat} {z : World} {E : Env} {M : Hp}
variable {dst : Option Tmp} {ty : TypeId} {pos : String} {af : Array Edge} {gu : Option (Nat × Bool)} {t yt : TypeId} {x y : Operand}
/-- a call of a function value without bound parts -/
theorem Does.callV {f : FuncId} {args : List Operand} {vs : List Value} {at_ : Array TypeId} {c : Operand} {R : Value → Hp → Prop} (hc : ev E c = some (.func (.func f) #[] #[])) (hf : goQ P f = true) (ha0 : evs E args = some vs)
    (h : FnC P f vs.toArray M R) : Does P N z E M ⟨dst, .call ⟨.value c, args.toArray, at_⟩, ty, pos, af, gu⟩ R :=
  Does.call (first := #[]) (cap := #[]) hc hf ha0 (by simpa using h)
/-- []byte(s) -/
theorem Does.s2bL {src d e : TypeId} {l : List UInt8} (hx : ev E x = some (.string (ofL l))) (hs : P.underlying src = some .string) (hd : P.underlying d = some (.slice e)) (he : P.underlying e = some (.int .u8)) :
    Does P N z E M ⟨dst, .convert src d x, ty, pos, af, gu⟩ (fun u M' => ∃ b c sp fz, u = .slice (some ⟨b, 0, none⟩) l.length c ∧ M' = (b, .cells (bv l ++ sp).toArray e fz) :: M) := by
  refine (Does.s2b hx hs hd he).mono fun v M' ⟨b, c, sp, h1, h2, h3⟩ => ⟨b, c, sp, _, (by rw [ofL_size] at h1; exact h1), (by rw [ofL_toList] at h3; exact h3)⟩
end
end Go.X
/- The engine: a slice's literal of structs. -/
set_option linter.unusedVariables false
set_option linter.unusedSimpArgs false
namespace Go.X
open Go Go.RowKit
theorem setRange_app : ∀ (vs pre mid post : List Value), mid.length = vs.length → setRange (pre ++ (mid ++ post)) pre.length vs = pre ++ (vs ++ post)
  | [], pre, mid, post, h => by
    have : mid = [] := List.eq_nil_of_length_eq_zero h
    subst this; rfl
  | c :: r, pre, [], post, h => by simp at h
  | c :: r, pre, m :: mid, post, h => by
    have ih := setRange_app r (pre ++ [c]) mid post (by simpa using h)
    simp only [setRange]
    have e : (pre ++ (m :: mid ++ post)).set pre.length c = (pre ++ [c]) ++ (mid ++ post) := by
      rw [List.set_append_right _ _ (Nat.le_refl _)]
      simp
    rw [e]
    have e2 : pre.length + 1 = (pre ++ [c]).length := by simp
    rw [e2, ih]
    simp
theorem fill_from {α : Type} {f : α → List Value} {g : α → Value} {sz : Nat} (hf : ∀ a, (f a).length = sz) (hg : ∀ a, (g a).cells.toList = f a) {zl : List Value} (hz : zl.length = sz) :
    ∀ (zs : List α) (k : Nat) (pre : List Value), pre.length = k * sz → fillL (fun i => some (i * sz, sz)) (pre ++ zrep zl zs.length) ((zs.zipIdx k).map fun x => (x.2, g x.1)) = some (pre ++ zs.flatMap f)
  | [], k, pre, h => by simp [fillL, zrep]
  | a :: zs, k, pre, h => by
    have ih := fill_from hf hg hz zs (k + 1) (pre ++ f a) (by rw [List.length_append, hf, h, Nat.add_mul]; omega)
    simp only [List.zipIdx_cons, List.map_cons, fillL, List.length_cons, zrep, hg]
    have hc : (Nat.beq (f a).length sz && Nat.ble (k * sz + (f a).length) (pre ++ (zl ++ zrep zl zs.length)).length) = true := by
      rw [Bool.and_eq_true]
      refine ⟨by rw [hf]; exact Nat.beq_refl sz, Nat.ble_eq_true_of_le ?_⟩
      simp only [List.length_append, hf, h, hz]; omega
    rw [hc, ← h, setRange_app (f a) pre zl _ (by rw [hz, hf])]
    simp only [cond_true]
    rw [← List.append_assoc, ih]
    simp
theorem fill_all {α : Type} {f : α → List Value} {g : α → Value} {sz : Nat} (hf : ∀ a, (f a).length = sz) (hg : ∀ a, (g a).cells.toList = f a) {zl : List Value} (hz : zl.length = sz) (zs : List α) :
    fillL (fun i => some (i * sz, sz)) (zrep zl zs.length) (zs.zipIdx.map fun x => (x.2, g x.1)) = some (zs.flatMap f) := by
  have h := fill_from hf hg hz zs 0 [] (by simp)
  simpa using h
end Go.X
namespace Go.X
open Go Go.RowKit
theorem evP0 {E : Env} : evParts E [] = some [] := rfl
theorem evP {E : Env} {i : Nat} {x : Operand} {v : Value} {r : List (Nat × Operand)} {vs : List (Nat × Value)} (h : ev E x = some v) (hr : evParts E r = some vs) : evParts E ((i, x) :: r) = some ((i, v) :: vs) := by
  simp only [evParts, h, hr]
end Go.X
/- The engine: sync/atomic's loads, stores and sums. -/
set_option linter.unusedVariables false
set_option linter.unusedSimpArgs false
namespace Go.X
open Go Go.RowKit
section
variable {P : Program} {N : Nat} {z : World} {E : Env} {M : Hp} {f : FuncId} {fn : Func} {k : IntKind}
variable {dst : Option Tmp} {ty : TypeId} {pos : String} {af : Array Edge} {gu : Option (Nat × Bool)} {t yt : TypeId} {x y : Operand} {at_ : Array TypeId}
variable {b off : Nat} {cs : Array Value} {T : TypeId} {n m : Int}
theorem Val.atomL {fz : Nat × Nat} (hf : P.funcs[f]? = some fn) (hname : (fn.name == "runtime.NumGoroutine") = false) (hb : fn.body.isNone = true) (hn : Extern.findNext fn = none) (he : Extern.find fn = some (Extern.Atomic.loadT (.int k)))
    (i : Nat) (hx : ev E x = some (.pointer (some ⟨b, off, none⟩))) (hi : M[i]? = some (b, .cells cs T fz)) (hv : nth cs.toList off = some (.int k n)) :
    Val P N z E M ⟨dst, .call ⟨.value (.func f), #[x], at_⟩, ty, pos, af, gu⟩ (.int k n) := fun a w ha hw => by
  rw [nth_eq, Array.getElem?_toList] at hv
  have hc : w.cell? ⟨b, off, none⟩ = some (.int k n) := (cell_of (hw.at hi)).trans hv
  have h := run_call_load hf hname hb hn k he hc
  have hfe : a.eval (.func f) = .func (.func f) #[] #[] := rfl
  simp only [execOp, resolve, hfe, Deferred.ofValue, Sem.run_bind, Sem.run_pure, Result.andThen, invoke, List.map_toArray, List.map_cons, List.map_nil, ha.ev hx, Array.append_empty, Array.empty_append]
  exact h
theorem Does.atomS (hf : P.funcs[f]? = some fn) (hname : (fn.name == "runtime.NumGoroutine") = false) (hb : fn.body.isNone = true) (hn : Extern.findNext fn = none) (he : Extern.find fn = some Extern.Atomic.storeT)
    (i : Nat) (hx : ev E x = some (.pointer (some ⟨b, off, none⟩))) (hy : ev E y = some (.int k n)) (hi : M[i]? = some (b, .cells cs T (0, 0))) (ho : off < cs.size) :
    Does P N z E M ⟨dst, .call ⟨.value (.func f), #[x, y], at_⟩, ty, pos, af, gu⟩ (fun u M' => u = .tuple #[] ∧ M' = M.set i (b, .cells (cs.setIfInBounds off (.int k n)) T (0, 0))) := fun a w K Q ha hw kk => by
  have hbk := hw.at hi
  have hc : w.cell? ⟨b, off, none⟩ = some cs[off] := by rw [cell_of hbk, Array.getElem?_eq_getElem ho]
  have h := run_call_store (y := n) hf hname hb hn he hc (frozen_of_row w b _ cs T hbk) (k := k)
  have hfe : a.eval (.func f) = .func (.func f) #[] #[] := rfl
  have hex : (execOp a.eval ⟨dst, .call ⟨.value (.func f), #[x, y], at_⟩, ty, pos, af, gu⟩).run P w = .ok (.value (.tuple #[])) (w.setCell ⟨b, off, none⟩ (.int k n)) := by
    simp only [execOp, resolve, hfe, Deferred.ofValue, Sem.run_bind, Sem.run_pure, Result.andThen, invoke, List.map_toArray, List.map_cons, List.map_nil, ha.ev hx, ha.ev hy, Array.append_empty, Array.empty_append]
    exact h
  simp only [Oper.wp, hex, Oper.upon]
  exact kk _ _ _ ⟨rfl, rfl⟩ (hw.setAt hi rfl rfl rfl (heap_setCell_same w b off cs T _ hbk) (fun j hj => heap_setCell_other w _ j _ (by simpa using hj)))
theorem Does.atomA (hf : P.funcs[f]? = some fn) (hname : (fn.name == "runtime.NumGoroutine") = false) (hb : fn.body.isNone = true) (hn : Extern.findNext fn = none) (he : Extern.find fn = some (Extern.Atomic.update (Op.intArith .add) k true))
    (i : Nat) (hx : ev E x = some (.pointer (some ⟨b, off, none⟩))) (hy : ev E y = some (.int k n)) (hi : M[i]? = some (b, .cells cs T (0, 0))) (hv : nth cs.toList off = some (.int k m)) {r : Int} (hr : k.wrap (m + n) = r) :
    Does P N z E M ⟨dst, .call ⟨.value (.func f), #[x, y], at_⟩, ty, pos, af, gu⟩ (fun u M' => u = .int k r ∧ M' = M.set i (b, .cells (cs.setIfInBounds off (.int k r)) T (0, 0))) := fun a w K Q ha hw kk => by
  subst hr
  rw [nth_eq, Array.getElem?_toList] at hv
  have hbk := hw.at hi
  have hc : w.cell? ⟨b, off, none⟩ = some (.int k m) := (cell_of hbk).trans hv
  have h := run_call_add (y := n) (s := k.wrap (m + n)) hf hname hb hn k he hc (frozen_of_row w b _ cs T hbk) (by simp [Op.intArith])
  have hfe : a.eval (.func f) = .func (.func f) #[] #[] := rfl
  have hex : (execOp a.eval ⟨dst, .call ⟨.value (.func f), #[x, y], at_⟩, ty, pos, af, gu⟩).run P w = .ok (.value (.int k (k.wrap (m + n)))) (w.setCell ⟨b, off, none⟩ (.int k (k.wrap (m + n)))) := by
    simp only [execOp, resolve, hfe, Deferred.ofValue, Sem.run_bind, Sem.run_pure, Result.andThen, invoke, List.map_toArray, List.map_cons, List.map_nil, ha.ev hx, ha.ev hy, Array.append_empty, Array.empty_append]
    exact h
  simp only [Oper.wp, hex, Oper.upon]
  exact kk _ _ _ ⟨rfl, rfl⟩ (hw.setAt hi rfl rfl rfl (heap_setCell_same w b off cs T _ hbk) (fun j hj => heap_setCell_other w _ j _ (by simpa using hj)))
end
end Go.X
/- The engine: long regions whose order is drawn, where every operation waits for what it reads: quick checks. -/
set_option linter.unusedVariables false
set_option linter.unusedSimpArgs false
namespace Go.X
open Go Go.RowKit
def waits (o : Oper) (i : Nat) : Bool := o.after.toList.any fun e => Region.binds .any e && Nat.beq e.on i
def noSel (o : Oper) : Bool := match o.op with | .select .. => false | _ => true
/-- of two, one waits for the other, or they are apart -/
def Tidy (ops : Array Oper) : Prop := Region.noSelect ops = true ∧ ∀ i j oi oj, ops[i]? = some oi → ops[j]? = some oj → i ≠ j → waits oj i = false → waits oi j = false → oi.apart ops oj = true
def dd : List Nat → Bool
  | [] => true
  | x :: r => !(r.any (Nat.beq x)) && dd r
/-- who reads what x yields waits for it -/
def heeds (ops : Array Oper) (all : List (Oper × Nat)) (x : Oper × Nat) : Bool :=
  (x.1.looksAt ops).all fun t => all.all fun y => (match y.1.dst with | some d => !Nat.beq d t | none => true) || Nat.beq y.2 x.2 || waits x.1 y.2
def tidyB (ops : Array Oper) : Bool := ops.toList.all noSel && (dd (ops.toList.filterMap (·.dst)) && (let l := ops.toList.zipIdx; l.all (heeds ops l)))
theorem dd_spec : ∀ {l : List Nat}, dd l = true → l.Nodup
  | [], _ => List.nodup_nil
  | x :: r, h => by
    simp only [dd, Bool.and_eq_true, Bool.not_eq_true'] at h
    refine List.nodup_cons.2 ⟨fun hm => ?_, dd_spec h.2⟩
    have h1 := h.1
    rw [List.any_eq_false] at h1
    exact h1 x hm (by simp)
theorem dst_ne {l : List Oper} (h : (l.filterMap (·.dst)).Nodup) : ∀ {i j : Nat} {oi oj : Oper} {d : Nat}, l[i]? = some oi → l[j]? = some oj → i ≠ j → oi.dst = some d → oj.dst ≠ some d := by
  induction l with
  | nil => intro i j oi oj d h1; simp at h1
  | cons x r ih =>
    intro i j oi oj d h1 h2 hij hd he
    have hr : (r.filterMap (·.dst)).Nodup := by
      rw [List.filterMap_cons] at h
      split at h
      · exact h
      · exact (List.nodup_cons.1 h).2
    cases i with
    | zero =>
      cases j with
      | zero => exact hij rfl
      | succ j =>
        simp at h1 h2
        subst h1
        rw [List.filterMap_cons, hd] at h
        exact (List.nodup_cons.1 h).1 (List.mem_filterMap.2 ⟨oj, List.mem_of_getElem? h2, he⟩)
    | succ i =>
      cases j with
      | zero =>
        simp at h1 h2
        subst h2
        rw [List.filterMap_cons, he] at h
        exact (List.nodup_cons.1 h).1 (List.mem_filterMap.2 ⟨oi, List.mem_of_getElem? h1, hd⟩)
      | succ j => exact ih hr (by simpa using h1) (by simpa using h2) (by omega) hd he
theorem tidy_spec {ops : Array Oper} (h : tidyB ops = true) : Tidy ops := by
  simp only [tidyB, Bool.and_eq_true, List.all_eq_true] at h
  obtain ⟨h1, h2, h3⟩ := h
  refine ⟨?_, fun i j oi oj hi hj hij hw1 hw2 => ?_⟩
  · unfold Region.noSelect
    rw [Array.all_eq_true_iff_forall_mem]
    intro o ho
    have := h1 o (by simpa using ho)
    unfold noSel at this
    exact this
  · have hi' : ops.toList[i]? = some oi := by simpa using hi
    have hj' : ops.toList[j]? = some oj := by simpa using hj
    have key : ∀ {p q : Nat} {x y : Oper} {d : Nat}, ops.toList[p]? = some x → ops.toList[q]? = some y → p ≠ q → waits y p = false → x.dst = some d → d ∉ y.looksAt ops := by
      intro p q x y d hp hq hpq hw hd hm
      have hy : (y, q) ∈ ops.toList.zipIdx := List.mk_mem_zipIdx_iff_getElem?.2 hq
      have hx : (x, p) ∈ ops.toList.zipIdx := List.mk_mem_zipIdx_iff_getElem?.2 hp
      have h4 := h3 _ hy
      simp only [heeds, List.all_eq_true] at h4
      have h5 := h4 d hm _ hx
      simp only [hd, hw, Bool.or_false] at h5
      simp at h5
      exact hpq h5
    have hn := dd_spec h2
    unfold Oper.apart
    rw [Bool.and_eq_true]
    constructor
    · cases hd : oi.dst with
      | none => rfl
      | some d =>
        simp only [Bool.and_eq_true, Bool.not_eq_true', bne_iff_ne]
        exact ⟨by have := key hi' hj' hij hw1 hd; simpa using this, dst_ne hn hi' hj' hij hd⟩
    · cases hd : oj.dst with
      | none => rfl
      | some d =>
        simp only [Bool.not_eq_true']
        have := key hj' hi' (Ne.symm hij) hw2 hd
        simpa using this
theorem ls_size (n m : Nat) : (ls n m).size = n := by simp [ls]
theorem ls_getD (n m k : Nat) (d : Bool) : (ls n m).getD k d = if k < n then m.testBit k else d := by
  rw [Array.getD_eq_getD_getElem?]
  simp only [ls, List.getElem?_toArray, List.getElem?_map]
  by_cases h : k < n
  · rw [List.getElem?_range h, if_pos h]; rfl
  · rw [List.getElem?_eq_none (by simp; omega), if_neg h]; rfl
theorem ls_set (n m i : Nat) : (ls n m).setIfInBounds i true = ls n (m ||| 1 <<< i) := by
  apply Array.ext'
  apply List.ext_getElem?
  intro k
  simp only [ls, Array.toList_setIfInBounds, List.getElem?_set, List.getElem?_map, List.length_map, List.length_range]
  by_cases hk : k < n
  · rw [List.getElem?_range hk]
    simp only [Option.map_some, Nat.testBit_or, Nat.testBit_shiftLeft]
    by_cases hik : i = k
    · subst hik; simp [hk]
    · rw [if_neg hik]
      congr 1
      by_cases h2 : i ≤ k
      · have : Nat.testBit 1 (k - i) = false := by
          rw [Bool.eq_false_iff]
          intro h3
          have := Nat.testBit_one_eq_true_iff_self_eq_zero.1 h3
          omega
        simp [this]
      · simp [h2]
  · rw [List.getElem?_eq_none (by simp; omega)]
    simp; omega
/-- all that it waits for stands in the number -/
def rdy (n : Nat) (o : Oper) (m : Nat) : Bool := o.after.toList.all fun e => !Region.binds .any e || (m.testBit e.on && Nat.blt e.on n)
def rdyL (n m : Nat) : Nat → List Oper → List Nat
  | _, [] => []
  | k, o :: r => bif !m.testBit k && rdy n o m then k :: rdyL n m (k + 1) r else rdyL n m (k + 1) r
theorem rdy_spec {n m : Nat} {o : Oper} : rdy n o m = true ↔ ∀ e ∈ o.after, Region.binds .any e = true → (ls n m).getD e.on false = true := by
  simp only [rdy, List.all_eq_true]
  constructor
  · intro h e he hb
    have := h e (by simpa using he)
    simp only [hb, Bool.not_true, Bool.false_or, Bool.and_eq_true, Nat.blt_eq] at this
    rw [ls_getD, if_pos this.2]; exact this.1
  · intro h e he
    cases hb : Region.binds .any e with
    | false => rfl
    | true =>
      have := h e (by simpa using he) hb
      rw [ls_getD] at this
      split at this
      · simp [this, *]
      · cases this
theorem rdyL_mem {n m : Nat} : ∀ {l : List Oper} {k j : Nat} {o : Oper}, l[j]? = some o → m.testBit (k + j) = false → rdy n o m = true → (k + j) ∈ rdyL n m k l
  | [], k, j, o, h, _, _ => by simp at h
  | x :: r, k, 0, o, h, h1, h2 => by
    simp at h; subst h
    simp only [Nat.add_zero] at h1 ⊢
    simp [rdyL, h1, h2]
  | x :: r, k, j + 1, o, h, h1, h2 => by
    have e : k + (j + 1) = k + 1 + j := by omega
    rw [e] at h1 ⊢
    have := rdyL_mem (k := k + 1) (by simpa using h) h1 h2
    simp only [rdyL]
    cases (!m.testBit k && rdy n x m)
    · exact this
    · exact List.mem_cons_of_mem _ this
theorem rdyL_back {n m : Nat} : ∀ {l : List Oper} {k j : Nat}, j ∈ rdyL n m k l → ∃ q o, j = k + q ∧ l[q]? = some o ∧ m.testBit j = false ∧ rdy n o m = true
  | [], k, j, h => by simp [rdyL] at h
  | x :: r, k, j, h => by
    have back : j ∈ rdyL n m (k + 1) r → ∃ q o, j = k + q ∧ (x :: r)[q]? = some o ∧ m.testBit j = false ∧ rdy n o m = true := fun h => by
      obtain ⟨q, o, e, h1, h2, h3⟩ := rdyL_back h
      exact ⟨q + 1, o, by omega, by simpa using h1, h2, h3⟩
    simp only [rdyL] at h
    cases hc : (!m.testBit k && rdy n x m) with
    | false => rw [hc] at h; exact back h
    | true =>
      rw [hc] at h
      rcases List.mem_cons.1 h with rfl | h
      · simp only [Bool.and_eq_true, Bool.not_eq_true'] at hc
        exact ⟨0, x, rfl, rfl, hc.1, hc.2⟩
      · exact back h
theorem ready_iff {ops : Array Oper} {n m j : Nat} (hs : ops.size = n) : j ∈ Region.ready .any ops (ls n m) ↔ j ∈ rdyL n m 0 ops.toList := by
  rw [mem_ready]
  constructor
  · rintro ⟨h1, o, ho, h2⟩
    have hj : j < n := by rw [← hs]; exact (Array.getElem?_eq_some_iff.1 ho).1
    rw [ls_getD, if_pos hj] at h1
    have := rdyL_mem (n := n) (m := m) (l := ops.toList) (k := 0) (j := j) (o := o) (by simpa using ho) (by simpa using h1) (rdy_spec.2 h2)
    simpa using this
  · intro h
    obtain ⟨q, o, e, h1, h2, h3⟩ := rdyL_back h
    simp at e; subst e
    have ho : ops[j]? = some o := by simpa using h1
    have hj : j < n := by rw [← hs]; exact (Array.getElem?_eq_some_iff.1 ho).1
    refine ⟨by rw [ls_getD, if_pos hj]; exact h2, o, ho, rdy_spec.1 h3⟩
section
variable {P : Program} {N : Nat} {z : World} {Q : Exit → Act → World → Prop} {E : Env} {M Mro : Hp} {ops : Array Oper} {fuel n m : Nat}
/-- as TA, of a region where each operation waits for what it reads -/
def TF (P : Program) (N : Nat) (z : World) (ops : Array Oper) (Q : Exit → Act → World → Prop) (Mro : Hp) (fuel n m : Nat) (E : Env) (M : Hp) : Prop := Tidy ops → ops.size = n → TA P N z ops Q Mro fuel (ls n m) E M
def TOF (P : Program) (N : Nat) (z : World) (ops : Array Oper) (Q : Exit → Act → World → Prop) (Mro : Hp) (fuel n m i : Nat) (E : Env) (M : Hp) : Prop := Tidy ops → ops.size = n → TO P N z ops Q Mro fuel (ls n m) i E M
theorem TC.drawF {id : Nat} (Mro : Hp) (hm : P.follows .mixedOrders = true) (n : Nat) (ht : tidyB ops = true) (hs : ops.size = n) (h : TF P N z ops Q Mro n n 0 E M) : TC P N z Q (.region id ops true) E M := by
  refine TC.draw Mro hm ?_
  have e : Array.replicate ops.size false = ls n 0 := by
    rw [hs]
    apply Array.ext'
    apply List.ext_getElem?
    intro k
    simp only [ls, Array.toList_replicate, List.getElem?_replicate, List.getElem?_map]
    by_cases hk : k < n
    · rw [List.getElem?_range hk]; simp [hk]
    · rw [List.getElem?_eq_none (by simp; omega)]; simp [hk]
  rw [e, hs]
  exact h (tidy_spec ht) hs
theorem TF.tk (i m' : Nat) {o : Oper} {d : Nat} {v : Value} (hi : ops[i]? = some o) (hg : o.guard = none) (hd : o.dst = some d) (h : Val P N z E Mro o v) (k : TF P N z ops Q Mro fuel n m' ((d, v) :: E) M)
    (hN : d < N := by exact Nat.le_of_ble_eq_true rfl) (hr : (!m.testBit i && rdy n o m) = true := by kernel_rfl) (hl : m ||| 1 <<< i = m' := by kernel_rfl)
    (hro : ∀ w, Own z w M → Own z w Mro := by repeat (first | exact Go.X.ro_refl | exact Go.X.ro_pre | refine Go.X.ro_tail ?_ | refine Go.X.ro_app ?_)) : TF P N z ops Q Mro (fuel + 1) n m E M := fun ht hs => by
  simp only [Bool.and_eq_true, Bool.not_eq_true'] at hr
  have hin : i < n := by rw [← hs]; exact (Array.getElem?_eq_some_iff.1 hi).1
  have hrd := rdy_spec.1 hr.2
  have hmem : i ∈ Region.ready .any ops (ls n m) := mem_ready.2 ⟨by rw [ls_getD, if_pos hin]; exact hr.1, o, hi, hrd⟩
  have hf : Region.free .any ops (ls n m) i = true := by
    simp only [Region.free, hi, List.all_eq_true, List.mem_range]
    intro j hj
    have hoj : ops[j]? = some ops[j] := Array.getElem?_eq_getElem hj
    by_cases hji : j = i
    · simp [hji]
    · cases hlj : (ls n m).getD j true with
      | true => simp
      | false =>
        simp only [hoj, Bool.or_eq_true, Bool.false_eq_true, or_false, beq_iff_eq, hji, false_or]
        cases hw : ops[j].after.any (fun e => Region.binds .any e && e.on == i) with
        | true => exact .inl rfl
        | false =>
          right
          refine ht.2 i j o ops[j] hi hoj (Ne.symm hji) ?_ ?_
          · rw [Bool.eq_false_iff] at hw ⊢
            intro h2
            apply hw
            simp only [waits, List.any_eq_true, Bool.and_eq_true] at h2
            obtain ⟨e, he, hb, ho⟩ := h2
            rw [Array.any_eq_true']
            exact ⟨e, by simpa using he, by simp only [Bool.and_eq_true, beq_iff_eq]; exact ⟨hb, Nat.eq_of_beq_eq_true ho⟩⟩
          · rw [Bool.eq_false_iff]
            intro h2
            simp only [waits, List.any_eq_true, Bool.and_eq_true] at h2
            obtain ⟨e, he, hb, ho⟩ := h2
            have h3 := hrd e (by simpa using he) hb
            rw [Nat.eq_of_beq_eq_true ho, ls_getD, if_pos (by omega)] at h3
            rw [ls_getD, if_pos (by omega), h3] at hlj
            cases hlj
  exact TA.take i hi hg hd hN ht.1 hf (by simpa using hmem) (by rw [ls_set, hl]) hro h (k ht hs)
theorem TF.all {rs : List Nat} (hr : rdyL n m 0 ops.toList = rs) (hne : rs ≠ []) (h : ∀ i ∈ rs, TOF P N z ops Q Mro fuel n m i E M) : TF P N z ops Q Mro (fuel + 1) n m E M := fun ht hs => by
  refine TA.all rfl ?_ fun i hi => h i ?_ ht hs
  · intro h0
    cases rs with
    | nil => exact hne rfl
    | cons i r =>
      have : i ∈ Region.ready .any ops (ls n m) := (ready_iff hs).2 (by rw [hr]; exact List.mem_cons_self ..)
      rw [h0] at this
      cases this
  · rw [← hr]; exact (ready_iff hs).1 hi
theorem TF.one (i : Nat) (hr : rdyL n m 0 ops.toList = [i]) (h : TOF P N z ops Q Mro fuel n m i E M) : TF P N z ops Q Mro (fuel + 1) n m E M :=
  TF.all hr (by simp) fun j hj => by simp at hj; subst hj; exact h
theorem TF.done (hr : rdyL n m 0 ops.toList = []) (h : AtX N z Q .normal E M) : TF P N z ops Q Mro fuel n m E M := fun ht hs =>
  TA.done (List.eq_nil_iff_forall_not_mem.2 fun j hj => by have := (ready_iff hs).1 hj; rw [hr] at this; cases this) h
theorem TOF.dz {i : Nat} (m' : Nat) {o : Oper} {R : Value → Hp → Prop} (d : Option Nat) (hi : ops[i]? = some o) (hd : o.dst = d) (hg : o.guard = none) (hN : ltN d N = true) (h : Does P N z E M o R)
    (k : ∀ v M', R v M' → (∀ w, Own z w M' → Own z w Mro) ∧ TF P N z ops Q Mro fuel n m' (putE d v E) M') (hl : m ||| 1 <<< i = m' := by kernel_rfl) : TOF P N z ops Q Mro fuel n m i E M := fun ht hs =>
  TO.does d hi hd hg hN (by rw [ls_set, hl]) h fun v M' hR => ⟨(k v M' hR).1, (k v M' hR).2 ht hs⟩
theorem TF.heap {M' : Hp} (hM : ∀ w, Own z w M → Own z w M') (h : TF P N z ops Q Mro fuel n m E M') : TF P N z ops Q Mro fuel n m E M := fun ht hs => TA.heap hM (h ht hs)
theorem TF.env {E' : Env} (hE : Sub E' E) (h : TF P N z ops Q Mro fuel n m E' M) : TF P N z ops Q Mro fuel n m E M := fun ht hs => TA.env hE (h ht hs)
end
end Go.X
/- The engine: regions that write what they read, the strong heap a part of all; moving blocks. -/
set_option linter.unusedVariables false
set_option linter.unusedSimpArgs false
namespace Go.X
open Go Go.RowKit
section
variable {P : Program} {N : Nat} {z : World} {Q : Exit → Act → World → Prop} {E : Env} {M Ms Mw : Hp} {ops : Array Oper} {fuel n m : Nat} {es : List Nat}
theorem TC.drawGM {id : Nat} (es : List Nat) (Ms Mw : Hp) (hm : P.follows .mixedOrders = true) (n : Nat) (h : TG P N z ops Q es Ms Mw ops.size (ls n 0) E M) (h0 : Array.replicate ops.size false = ls n 0 := by kernel_rfl) : TC P N z Q (.region id ops true) E M :=
  fun a w ha hw => wp_region_noPanic (wp_region_any hm (wpAny_of_G _ _ _ _ (h0 ▸ h a _ ha (hw.drawn _))))
theorem TG.heap {listed : Array Bool} {M' : Hp} (hM : ∀ w, Own z w M → Own z w M') (h : TG P N z ops Q es Ms Mw fuel listed E M') : TG P N z ops Q es Ms Mw fuel listed E M := fun a w ha hw => h a w ha (hM w hw)
theorem ro_mv {A L R : Hp} : ∀ w, Own z w (A ++ (L ++ R)) → Own z w (L ++ (A ++ R)) := fun w h => h.perm (by
  rw [← List.append_assoc, ← List.append_assoc]
  exact List.perm_append_comm.append_right R)
theorem ro_4 {L R : Hp} {s a b c : Nat × Obj} : ∀ w, Own z w (L ++ s :: a :: b :: c :: R) → Own z w (a :: b :: c :: (L ++ s :: R)) := fun w h => by
  have h1 : Own z w ([a, b, c] ++ ((L ++ [s]) ++ R)) := ro_mv (A := L ++ [s]) (L := [a, b, c]) w (by simpa using h)
  simpa using h1
theorem ro_in {A L Y R : Hp} {s : Nat × Obj} : ∀ w, Own z w (A ++ (L ++ (s :: (Y ++ R)))) → Own z w (A ++ (L ++ ((Y ++ [s]) ++ R))) := fun w h => h.perm (by
  refine List.Perm.append_left A (List.Perm.append_left L ?_)
  simp only [List.append_assoc, List.singleton_append]
  exact List.perm_middle.symm)
end
theorem zrep_1 (v : Value) (n : Nat) : zrep [v] n = List.replicate n v := by
  induction n with
  | zero => rfl
  | succ n ih => simp [zrep, ih, List.replicate_succ]
theorem zrep_bool (n : Nat) : zrep [Value.bool false] n = (List.replicate n false).map Value.bool := by rw [zrep_1, List.map_replicate]
theorem rd_row0 {M : Hp} {i b : Nat} {T : TypeId} {l sp : List Value} (h : M[i]? = some (b, row T (l ++ sp))) : Rd M ⟨b, 0, none⟩ l := Rd.mem (T := T) (l := l ++ sp) (List.mem_of_getElem? h) (by simp)
theorem rd_rowA {M : Hp} {i b : Nat} {T : TypeId} {l : List Value} (h : M[i]? = some (b, row T l)) : Rd M ⟨b, 0, none⟩ l := rd_row0 (sp := []) (by rw [List.append_nil]; exact h)
end Go.X
namespace Go.X
open Go Go.RowKit
theorem fill_step {place : Nat → Option (Nat × Nat)} {pre mid post : List Value} {i off sz : Nat} {v : Value} {rest : List (Nat × Value)} {r : List Value} (hp : place i = some (off, sz)) (ho : pre.length = off) (hm : mid.length = sz) (hv : v.cells.toList.length = sz)
    (h : fillL place (pre ++ (v.cells.toList ++ post)) rest = some r) : fillL place (pre ++ (mid ++ post)) ((i, v) :: rest) = some r := by
  simp only [fillL, hp, hv]
  have hc : (Nat.beq sz sz && Nat.ble (off + sz) (pre ++ (mid ++ post)).length) = true := by
    rw [Bool.and_eq_true]
    refine ⟨Nat.beq_refl sz, Nat.ble_eq_true_of_le ?_⟩
    simp only [List.length_append, ho, hm]; omega
  rw [hc, ← ho, setRange_app v.cells.toList pre mid post (by rw [hm, hv])]
  exact h
end Go.X
namespace Go.X
open Go Go.RowKit
theorem ro_pre3 {z : World} {a b c : Nat × Obj} {L : Hp} : ∀ w, Own z w (a :: b :: c :: L) → Own z w [a, b, c] := ro_pre (M := [a, b, c]) (L := L)
theorem ro_nil {z : World} {L : Hp} : ∀ w, Own z w L → Own z w [] := ro_pre (M := []) (L := L)
end Go.X
/- The engine: calls of closures; loads of what is among the blocks. -/
set_option linter.unusedVariables false
set_option linter.unusedSimpArgs false
namespace Go.X
open Go Go.RowKit
section
variable {P : Program} {N : Nat} {z : World} {E : Env} {M : Hp}
variable {dst : Option Tmp} {ty : TypeId} {pos : String} {af : Array Edge} {gu : Option (Nat × Bool)} {t yt : TypeId} {x y : Operand}
theorem Does.callC {f : FuncId} {args : List Operand} {vs cap : List Value} {at_ : Array TypeId} {c : Operand} {R : Value → Hp → Prop} (hc : ev E c = some (.func (.func f) #[] cap.toArray)) (hf : goQ P f = true) (ha0 : evs E args = some vs)
    (h : FnC P f (vs ++ cap).toArray M R) : Does P N z E M ⟨dst, .call ⟨.value c, args.toArray, at_⟩, ty, pos, af, gu⟩ R :=
  Does.call (first := #[]) (cap := cap.toArray) hc hf ha0 (by simpa using h)
theorem Val.loadMem {b off : Nat} {cs : Array Value} {T : TypeId} {fz : Nat × Nat} {v : Value} (hx : ev E x = some (.pointer (some ⟨b, off, none⟩))) (ht : aggQ P t = some false)
    (hm : (b, Obj.cells cs T fz) ∈ M) (hv : nth cs.toList off = some v) : Val P N z E M ⟨dst, .load t x, ty, pos, af, gu⟩ v := by
  obtain ⟨i, hi⟩ := List.getElem?_of_mem hm
  exact Val.load i hx ht hi hv
end
theorem get_app {L H : Hp} {j : Nat} {x : Nat × Obj} (h : H[j]? = some x) : (L ++ H)[L.length + j]? = some x := by
  rw [List.getElem?_append_right (by omega)]; simpa using h
theorem get_app4 {L H : Hp} {j : Nat} {x a b c d : Nat × Obj} (h : H[j]? = some x) : (a :: b :: c :: d :: (L ++ H))[L.length + j + 4]? = some x := get_app h
theorem get_app1 {L H : Hp} {j : Nat} {x a : Nat × Obj} (h : H[j]? = some x) : (a :: (L ++ H))[L.length + j + 1]? = some x := get_app h
theorem set_app {L H : Hp} {j : Nat} {y : Nat × Obj} : (L ++ H).set (L.length + j) y = L ++ H.set j y := by
  rw [List.set_append_right _ _ (by omega)]; simp
theorem set_app4 {L H : Hp} {j : Nat} {y a b c d : Nat × Obj} : (a :: b :: c :: d :: (L ++ H)).set (L.length + j + 4) y = a :: b :: c :: d :: (L ++ H.set j y) := by
  show a :: b :: c :: d :: ((L ++ H).set (L.length + j) y) = _
  rw [set_app]
theorem ro_pre4 {z : World} {a b c d : Nat × Obj} {L : Hp} : ∀ w, Own z w (a :: b :: c :: d :: L) → Own z w [a, b, c, d] := ro_pre (M := [a, b, c, d]) (L := L)
theorem rdS_opt {σ : Sl} {e sz n : Nat} {xs : List Value} {H : Hp} (h : slOk σ sz n xs) : RdS (slH σ e xs ++ H) (slA σ) xs := slRd h (fun x hx => List.mem_append_left _ hx)
end Go.X
/- The engine: functions and nil. -/
set_option linter.unusedVariables false
set_option linter.unusedSimpArgs false
namespace Go.X
open Go Go.RowKit
section
variable {P : Program} {N : Nat} {z : World} {E : Env} {M : Hp}
variable {dst : Option Tmp} {ty : TypeId} {pos : String} {af : Array Edge} {gu : Option (Nat × Bool)} {t yt : TypeId} {x y : Operand}
def fnQ (P : Program) (t : TypeId) : Bool := match P.underlying t with | some (.func _ _ _) => true | _ => false
theorem fnQ_spec {t : TypeId} (h : fnQ P t = true) : ∃ a b c, P.underlying t = some (.func a b c) := by
  unfold fnQ at h; split at h
  · rename_i a b c he; exact ⟨a, b, c, he⟩
  · cases h
theorem Val.neqNilF (hx : ev E x = some .nilFunc) (hy : ev E y = some .nilFunc) (ht : fnQ P t = true) : Val P N z E M ⟨dst, .binOp .neq t x y yt, ty, pos, af, gu⟩ (.bool false) := fun a w ha hw => by
  obtain ⟨p, q, r, ht⟩ := fnQ_spec ht
  have hq : eqGuard .neq t x y .nilFunc .nilFunc = pure () := rfl
  have he : (Op.equal t .nilFunc .nilFunc).run P w = .ok true w := by
    show (Op.equalIn (9999 + 1) t _ _).run P w = _
    unfold Op.equalIn
    simp only [Sem.run_bind, run_underlying ht, Result.andThen, Sem.run_pure]
  simp only [execOp, ha.ev hx, ha.ev hy, hq, binOp, Sem.run_bind, Sem.run_pure, he, Result.andThen]
  rfl
theorem Val.neqFun {f : Go.Fn} {u v : Array Value} (hx : ev E x = some (.func f u v)) (hy : ev E y = some .nilFunc) (ht : fnQ P t = true) : Val P N z E M ⟨dst, .binOp .neq t x y yt, ty, pos, af, gu⟩ (.bool true) := fun a w ha hw => by
  obtain ⟨p, q, r, ht⟩ := fnQ_spec ht
  have hq : eqGuard .neq t x y (.func f u v) .nilFunc = pure () := rfl
  have he : (Op.equal t (.func f u v) .nilFunc).run P w = .ok false w := by
    show (Op.equalIn (9999 + 1) t _ _).run P w = _
    unfold Op.equalIn
    simp only [Sem.run_bind, run_underlying ht, Result.andThen, Sem.run_pure]
  simp only [execOp, ha.ev hx, ha.ev hy, hq, binOp, Sem.run_bind, Sem.run_pure, he, Result.andThen]
  rfl
end
end Go.X
/- The engine: structs that are compared. -/
set_option linter.unusedVariables false
set_option linter.unusedSimpArgs false
namespace Go.X
open Go Go.RowKit
/-- What comes of comparing two values of a type, n deep at most. -/
def EqV (P : Program) (n : Nat) (t : TypeId) (a b : Value) (r : Bool) : Prop := ∀ d w, (Op.equalIn (d + n) t a b).run P w = .ok r w
/-- What comes of comparing the fields from number i on. -/
def EqI (P : Program) (n : Nat) (t : TypeId) (xs ys : Array Value) (i : Nat) (r : Bool) : Prop := ∀ d w, (Op.eqFields (d + n) xs ys ((P.fieldsOf t).toList.drop i)).run P w = .ok r w
def namesQ (P : Program) (t : TypeId) : Bool := (P.fieldsOf t).toList.all (fun f => f.name != "_")
def strQ (P : Program) (t : TypeId) : Bool := match P.underlying t with | some (.struct _) => !(P.stoodInHeld t) | _ => false
section
variable {P : Program} {N : Nat} {z : World} {E : Env} {M : Hp}
variable {dst : Option Tmp} {ty : TypeId} {pos : String} {af : Array Edge} {gu : Option (Nat × Bool)} {t yt : TypeId} {x y : Operand}
theorem EqV.int {n : Nat} {k k' : IntKind} {a b : Int} (h : intQ P t = some k') : EqV P (n + 1) t (.int k a) (.int k b) (decide (a = b)) := fun d w => by
  rw [← Nat.add_assoc, run_equalIn_int w (d + n) t k k' a b (intQ_spec h)]
  rfl
theorem EqV.bool {n : Nat} {a b : Bool} (h : P.underlying t = some .bool) : EqV P (n + 1) t (.bool a) (.bool b) (a == b) := fun d w => by
  rw [← Nat.add_assoc]
  exact run_equalIn_bool' w (d + n) t a b h
theorem fldQ_fs {t : TypeId} {i off : Nat} {ft : TypeId} (h : fldQ P t i = some (off, ft)) : ∃ f : Field, (P.fieldsOf t).toList[i]? = some f ∧ f.offset = off ∧ f.type = ft := by
  unfold fldQ at h
  split at h
  · rename_i fs hfs
    simp only [Option.map_eq_some_iff] at h
    obtain ⟨f, h1, h2⟩ := h
    cases h2
    exact ⟨f, by rw [Program.fieldsOf]; simp only [hfs]; simpa using h1, rfl, rfl⟩
  · cases h
theorem EqI.done {n : Nat} {xs ys : Array Value} {i : Nat} (h : (P.fieldsOf t).size ≤ i) : EqI P n t xs ys i true := fun d w => by
  rw [List.drop_eq_nil_of_le (by simpa using h)]
  simp [Op.eqFields]
theorem EqI.cons {n : Nat} {xs ys : Array Value} {i off : Nat} {ft : TypeId} {a b : Value} {r1 r2 : Bool} (hf : fldQ P t i = some (off, ft)) (hn : namesQ P t = true) (ha : aggQ P ft = some false) (hx : nth xs.toList off = some a) (hy : nth ys.toList off = some b)
    (h : EqV P n ft a b r1) (k : EqI P n t xs ys (i + 1) r2) : EqI P n t xs ys i (r1 && r2) := fun d w => by
  obtain ⟨f, h1, h2, h3⟩ := fldQ_fs hf
  have hlt : i < (P.fieldsOf t).toList.length := (List.getElem?_eq_some_iff.1 h1).1
  have he : (P.fieldsOf t).toList.drop i = f :: (P.fieldsOf t).toList.drop (i + 1) := by
    rw [List.drop_eq_getElem_cons hlt]
    congr 1
    exact (List.getElem?_eq_some_iff.1 h1).2
  have hne : f.name ≠ "_" := by
    have := List.all_eq_true.1 hn f (List.mem_of_getElem? h1)
    simpa using this
  rw [nth_eq, Array.getElem?_toList] at hx hy
  have p1 : (part f.type xs f.offset).run P w = .ok a w := by
    rw [h2, h3]; simp [part, run_isAgg ha, Result.andThen, hx]
  have p2 : (part f.type ys f.offset).run P w = .ok b w := by
    rw [h2, h3]; simp [part, run_isAgg ha, Result.andThen, hy]
  rw [he]
  simp only [Op.eqFields, hne, ne_eq, not_false_eq_true, if_true, Sem.run_bind, p1, p2, Result.andThen_ok]
  rw [h3, h d w]
  simp only [Result.andThen_ok]
  cases r1
  · simp
  · simpa using k d w
theorem EqV.struct {n : Nat} {xs ys : Array Value} {r : Bool} (hs : strQ P t = true) (h : EqI P n t xs ys 0 r) : EqV P (n + 1) t (.agg xs) (.agg ys) r := fun d w => by
  unfold strQ at hs
  split at hs
  · rename_i fs hfs
    have e : P.fieldsOf t = fs := by simp [Program.fieldsOf, hfs]
    rw [← Nat.add_assoc, run_equalIn_struct w (d + n) t xs ys (by rw [e]; exact hfs) (by simpa using hs)]
    have := h d w
    rwa [List.drop_zero] at this
  · cases hs
theorem Val.eqlG {n : Nat} {xs ys : Array Value} {b : Bool} (hx : ev E x = some (.agg xs)) (hy : ev E y = some (.agg ys)) (he : P.eqGuardType P.depth t = false) (h : EqV P n t (.agg xs) (.agg ys) b) (hn : n ≤ 10000) :
    Val P N z E M ⟨dst, .binOp .eql t x y yt, ty, pos, af, gu⟩ (.bool b) := fun a w ha hw => by
  have hq : (eqGuard .eql t x y (.agg xs) (.agg ys)).run P w = .ok () w := by
    simp [eqGuard, he]
  have h2 : (Op.equal t (.agg xs) (.agg ys)).run P w = .ok b w := by
    have := h (10000 - n) w
    rw [show 10000 - n + n = 10000 by omega] at this
    exact this
  simp only [execOp, ha.ev hx, ha.ev hy, hq, binOp, Sem.run_bind, Sem.run_pure, h2, Result.andThen]
theorem Val.neqG {n : Nat} {xs ys : Array Value} {b : Bool} (hx : ev E x = some (.agg xs)) (hy : ev E y = some (.agg ys)) (he : P.eqGuardType P.depth t = false) (h : EqV P n t (.agg xs) (.agg ys) b) (hn : n ≤ 10000) :
    Val P N z E M ⟨dst, .binOp .neq t x y yt, ty, pos, af, gu⟩ (.bool (!b)) := fun a w ha hw => by
  have hq : (eqGuard .neq t x y (.agg xs) (.agg ys)).run P w = .ok () w := by
    simp [eqGuard, he]
  have h2 : (Op.equal t (.agg xs) (.agg ys)).run P w = .ok b w := by
    have := h (10000 - n) w
    rw [show 10000 - n + n = 10000 by omega] at this
    exact this
  simp only [execOp, ha.ev hx, ha.ev hy, hq, binOp, Sem.run_bind, Sem.run_pure, h2, Result.andThen]
end
end Go.X
/- The engine: short forms. -/
set_option linter.unusedVariables false
namespace Go.X
open Go Go.RowKit
/-- fewer blocks, in the same order -/
theorem ro_s {z : World} {M M' : Hp} (h : List.Sublist M' M := by repeat (first | exact List.Sublist.refl _ | exact List.nil_sublist _ | refine List.Sublist.cons_cons _ ?_ | refine List.Sublist.cons _ ?_ | refine List.Sublist.append (List.Sublist.refl _) ?_ | refine List.sublist_append_of_sublist_right ?_)) : ∀ w, Own z w M → Own z w M' := fun w o => o.sublist h
section
variable {P : Program} {N : Nat} {z : World} {Q : Exit → Act → World → Prop} {E : Env} {M : Hp} {ops : Array Oper} {rest : List Oper}
theorem TL.v {o : Oper} {d : Nat} {v : Value} (h : Val P N z E M o v) (k : TL P N z ops Q rest ((d, v) :: E) M) (hg : o.guard = none := by exact rfl) (hd : o.dst = some d := by exact rfl) (hN : d < N := by exact Nat.le_of_ble_eq_true rfl) : TL P N z ops Q (o :: rest) E M :=
  TL.val hg hd hN h k
theorem TL.vy {o : Oper} {d j dj : Nat} {want : Bool} {v : Value} (h : Val P N z E M o v) (k : TL P N z ops Q rest ((d, v) :: E) M) (hg : o.guard = some (j, want) := by exact rfl) (hd : o.dst = some d := by exact rfl) (hN : d < N := by exact Nat.le_of_ble_eq_true rfl)
    (hj : (ops[j]?).bind (·.dst) = some dj := by exact rfl) (hM : dj < N := by exact Nat.le_of_ble_eq_true rfl) (hb : look E dj = some (.bool want) := by exact rfl) : TL P N z ops Q (o :: rest) E M :=
  TL.valYes hg hd hN hj hM hb h k
theorem TL.gv {o : Oper} {d j dj : Nat} {want g : Bool} {v : Value} (hg : o.guard = some (j, want)) (hj : (ops[j]?).bind (·.dst) = some dj) (hb : look E dj = some (.bool g)) (h : g = want → Val P N z E M o v) (k : TL P N z ops Q rest ((d, gd g want v) :: E) M) (hd : o.dst = some d := by exact rfl) (hN : d < N := by exact Nat.le_of_ble_eq_true rfl)
    (hM : dj < N := by exact Nat.le_of_ble_eq_true rfl) : TL P N z ops Q (o :: rest) E M :=
  TL.gval hg hd hN hj hM hb h k
theorem TL.pa {o : Oper} {d j dj : Nat} {want b : Bool} (k : TL P N z ops Q rest ((d, undef) :: E) M) (hg : o.guard = some (j, want) := by exact rfl) (hd : o.dst = some d := by exact rfl) (hN : d < N := by exact Nat.le_of_ble_eq_true rfl) (hj : (ops[j]?).bind (·.dst) = some dj := by exact rfl) (hM : dj < N := by exact Nat.le_of_ble_eq_true rfl)
    (hb : look E dj = some (.bool b) := by exact rfl) (hne : (b == want) = false := by exact rfl) : TL P N z ops Q (o :: rest) E M := TL.pass hg hd hN hj hM hb hne k
theorem TL.pu {o : Oper} {d j dj : Nat} {want : Bool} (k : TL P N z ops Q rest ((d, undef) :: E) M) (hg : o.guard = some (j, want) := by exact rfl) (hd : o.dst = some d := by exact rfl) (hN : d < N := by exact Nat.le_of_ble_eq_true rfl) (hj : (ops[j]?).bind (·.dst) = some dj := by exact rfl) (hM : dj < N := by exact Nat.le_of_ble_eq_true rfl)
    (hb : look E dj = some undef := by exact rfl) : TL P N z ops Q (o :: rest) E M := TL.passU hg hd hN hj hM hb k
theorem TL.pn {o : Oper} {j dj : Nat} {want b : Bool} (k : TL P N z ops Q rest E M) (hg : o.guard = some (j, want) := by exact rfl) (hd : o.dst = none := by exact rfl) (hj : (ops[j]?).bind (·.dst) = some dj := by exact rfl) (hM : dj < N := by exact Nat.le_of_ble_eq_true rfl)
    (hb : look E dj = some (.bool b) := by exact rfl) (hne : (b == want) = false := by exact rfl) : TL P N z ops Q (o :: rest) E M := TL.passNone hg hd hj hM hb hne k
theorem TL.d {o : Oper} {R : Value → Hp → Prop} {d : Option Nat} (h : Does P N z E M o R) (k : ∀ v M', R v M' → TL P N z ops Q rest (putE d v E) M') (hd : o.dst = d := by exact rfl) (hg : o.guard = none := by exact rfl) (hN : ltN d N = true := by exact rfl) : TL P N z ops Q (o :: rest) E M :=
  TL.does d hd hg hN h k
theorem TL.dy {o : Oper} {R : Value → Hp → Prop} {d : Option Nat} {j dj : Nat} {want : Bool} (h : Does P N z E M o R) (k : ∀ v M', R v M' → TL P N z ops Q rest (putE d v E) M') (hd : o.dst = d := by exact rfl) (hg : o.guard = some (j, want) := by exact rfl) (hj : (ops[j]?).bind (·.dst) = some dj := by exact rfl)
    (hM : dj < N := by exact Nat.le_of_ble_eq_true rfl) (hb : look E dj = some (.bool want) := by exact rfl) (hN : ltN d N = true := by exact rfl) : TL P N z ops Q (o :: rest) E M :=
  TL.doesYes d hd hg hj hM hb hN h k
theorem TC.en {c : Code} {E' : Env} (h : TC P N z Q c E' M) (hE : Sub E' E := by repeat (first | exact Go.X.Sub.nil _ | refine Go.X.Sub.cons rfl ?_)) : TC P N z Q c E M := TC.env hE h
/-- behind the last operation of a region: the code that follows -/
theorem TL.nt {y : Code} (h : TC P N z Q y E M) : TL P N z ops (Exit.then (y.wp P Q) Q) [] E M := TL.nil (AtX.then h)
theorem TC.sr {id : Nat} {l : List Oper} {y : Code} (h : TL P N z l.toArray (Exit.then (y.wp P Q) Q) l E M) : TC P N z Q (.seq (.region id l.toArray false) y) E M := TC.seq (TC.region h)
theorem TC.r1 {fn : Func} {R : Value → Hp → Prop} {r1 : ResultVar} {v1 : Value} {M' : Hp} (hQ : ∀ a w, FnQ P fn z R .ret a w → Q .ret a w) (hf : fn.results = #[r1]) (h1 : RV P N E M r1 v1) (hR : R v1 M') (hM : ∀ w, Own z w M → Own z w M' := by exact Go.X.ro_s) : TC P N z Q .ret E M :=
  TC.ret1 hQ hf h1 hM hR
theorem TC.r2 {fn : Func} {R : Value → Hp → Prop} {r1 r2 : ResultVar} {v1 v2 : Value} {M' : Hp} (hQ : ∀ a w, FnQ P fn z R .ret a w → Q .ret a w) (hf : fn.results = #[r1, r2]) (h1 : RV P N E M r1 v1) (h2 : RV P N E M r2 v2) (hR : R (.tuple #[v1, v2]) M') (hM : ∀ w, Own z w M → Own z w M' := by exact Go.X.ro_s) : TC P N z Q .ret E M :=
  TC.ret2 hQ hf h1 h2 hM hR
end
end Go.X
/- Plain words for keys, tags, messages. -/
set_option linter.unusedVariables false
set_option linter.unusedSimpArgs false
namespace Go.X
open Go
def not64 (x : Int) : Int := bitsOf .xor .u64 18446744073709551615 x
/-- a key or a tag: two words -/
structure K2 where
  a : Int
  b : Int
def K2.v (k : K2) : Value := .agg #[.int .u64 k.a, .int .u64 k.b]
def tagOf (k : K2) (l : List UInt8) : K2 := ⟨sipSum k.a k.b l, sipSum k.b (not64 k.a) l⟩
def derive1 (k : K2) (lab : List UInt8) (n : Int) (i : Nat) : Int := sipSum k.a k.b (lab ++ [b8 (i + 1 : Nat)] ++ put8 n)
def deriveK (k : K2) (lab : List UInt8) (n : Int) : K2 := ⟨derive1 k lab n 0, derive1 k lab n 1⟩
def rootK (seed : Int) : K2 := deriveK ⟨seed, add64 seed 1⟩ [114, 111, 111, 116] 0
def macKey (seed who gen : Int) : K2 := deriveK (deriveK (rootK seed) [119, 104, 111] (IntKind.u64.wrap who)) [103, 101, 110] (IntKind.u64.wrap gen)
structure Ms where
  kind : Int
  who : Int
  gen : Int
  seq : Int
  epoch : Int
  value : Int
  metric : Int
def Ms.v (m : Ms) : Value := .agg #[.int .i64 m.kind, .int .i64 m.who, .int .i64 m.gen, .int .i64 m.seq, .int .i64 m.epoch, .int .i64 m.value, .int .i64 m.metric]
def msZ : Ms := ⟨0, 0, 0, 0, 0, 0, 0⟩
def inB (n lo hi : Int) : Bool := decide (lo ≤ n) && decide (n ≤ hi)
def mayM (m : Ms) : Bool := inB m.kind 1 3 && inB m.who 0 15 && inB m.gen 0 60000 && inB m.seq 1 1099511627776 && inB m.epoch 0 1099511627776 && inB m.metric 0 (if m.kind = 1 then 3 else 0) && inB m.value 0 (if m.kind = 1 then 1099511627776 else 0)
def putM (m : Ms) : List UInt8 := [1, b8 m.kind, b8 m.who, b8 m.metric] ++ (put8 (IntKind.u64.wrap m.gen)).take 4 ++ put8 (IntKind.u64.wrap m.seq) ++ put8 (IntKind.u64.wrap m.epoch) ++ put8 (IntKind.u64.wrap m.value)
@[simp] theorem putM_len (m : Ms) : (putM m).length = 32 := by simp [putM]
def tagB (t : K2) : List UInt8 := put8 t.a ++ put8 t.b
@[simp] theorem tagB_len (t : K2) : (tagB t).length = 16 := by simp [tagB]
def sealB (k : K2) (m : Ms) : List UInt8 := putM m ++ tagB (tagOf k (putM m))
@[simp] theorem sealB_len (k : K2) (m : Ms) : (sealB k m).length = 48 := by simp [sealB]
end Go.X
/- Plain words for what is set up. -/
set_option linter.unusedVariables false
set_option linter.unusedSimpArgs false
namespace Go.X
open Go
structure Cf where
  n : Int
  f : Int
  m : Int
  quorum : Int
  fresh : Int
  grace : Int
  window : Int
  t0 : Int
  t1 : Int
  t2 : Int
  t3 : Int
  tol : Int
  min : Int
  max : Int
  calmup : Int
  calmdown : Int
  podsup : Int
  pctup : Int
  podsdown : Int
  pctdown : Int
  period : Int
  far : Int
  strikes : Int
  probe : Int
  sectors : Int
  seed : Int
abbrev Cf.cs (c : Cf) : Array Value := #[.int .i64 c.n, .int .i64 c.f, .int .i64 c.m, .int .i64 c.quorum, .int .i64 c.fresh, .int .i64 c.grace, .int .i64 c.window, .int .i64 c.t0, .int .i64 c.t1, .int .i64 c.t2, .int .i64 c.t3, .int .i64 c.tol, .int .i64 c.min, .int .i64 c.max, .int .i64 c.calmup, .int .i64 c.calmdown, .int .i64 c.podsup, .int .i64 c.pctup, .int .i64 c.podsdown, .int .i64 c.pctdown, .int .i64 c.period, .int .i64 c.far, .int .i64 c.strikes, .int .i64 c.probe, .int .i64 c.sectors, .int .u64 c.seed]
abbrev Cf.v (c : Cf) : Value := .agg c.cs
def Cf.ts (c : Cf) : List Int := [c.t0, c.t1, c.t2, c.t3]
def cfZ : Cf := ⟨0, 0, 0, 0, 0, 0, 0, 0, 0, 0, 0, 0, 0, 0, 0, 0, 0, 0, 0, 0, 0, 0, 0, 0, 0, 0⟩
def cfD : Cf := ⟨4, 1, 1, 3, 2, 2, 32, 1000, 0, 0, 0, 100, 1, 100, 0, 3, 4, 100, 4, 50, 2, 100, 3, 4, 256, 1⟩
/-- it may be so -/
structure OkC (c : Cf) : Prop where
  n : 1 ≤ c.n ∧ c.n ≤ 16
  m : 1 ≤ c.m ∧ c.m ≤ 4
  fresh : 1 ≤ c.fresh ∧ c.fresh ≤ 8
  grace : 1 ≤ c.grace ∧ c.grace ≤ 100
  window : 1 ≤ c.window ∧ c.window ≤ 64
  tol : 0 ≤ c.tol ∧ c.tol ≤ 1000
  min : 1 ≤ c.min ∧ c.min ≤ 10000
  calmup : 0 ≤ c.calmup ∧ c.calmup ≤ 60
  calmdown : 0 ≤ c.calmdown ∧ c.calmdown ≤ 60
  podsup : 1 ≤ c.podsup ∧ c.podsup ≤ 1000
  pctup : 1 ≤ c.pctup ∧ c.pctup ≤ 1000
  podsdown : 1 ≤ c.podsdown ∧ c.podsdown ≤ 1000
  pctdown : 1 ≤ c.pctdown ∧ c.pctdown ≤ 100
  period : 1 ≤ c.period ∧ c.period ≤ 60
  far : 0 ≤ c.far ∧ c.far ≤ 1099511627776
  strikes : 1 ≤ c.strikes ∧ c.strikes ≤ 100
  probe : 1 ≤ c.probe ∧ c.probe ≤ 100
  sectors : 64 ≤ c.sectors ∧ c.sectors ≤ 4096
  seed : 0 ≤ c.seed ∧ c.seed ≤ 18446744073709551615
  f : 0 ≤ c.f ∧ 3 * c.f + 1 ≤ c.n
  quorum : 2 * c.f + 1 ≤ c.quorum ∧ c.quorum ≤ c.n
  max : c.min ≤ c.max ∧ c.max ≤ 10000
  t0 : (0 < c.m → 1 ≤ c.t0 ∧ c.t0 ≤ 1099511627776) ∧ (c.m ≤ 0 → c.t0 = 0)
  t1 : (1 < c.m → 1 ≤ c.t1 ∧ c.t1 ≤ 1099511627776) ∧ (c.m ≤ 1 → c.t1 = 0)
  t2 : (2 < c.m → 1 ≤ c.t2 ∧ c.t2 ≤ 1099511627776) ∧ (c.m ≤ 2 → c.t2 = 0)
  t3 : (3 < c.m → 1 ≤ c.t3 ∧ c.t3 ≤ 1099511627776) ∧ (c.m ≤ 3 → c.t3 = 0)
structure Pt where
  name : List UInt8
  is : Int
  lo : Int
  hi : Int
abbrev Pt.cs (p : Pt) : List Value := [.string (ofL p.name), .int .i64 p.is, .int .i64 p.lo, .int .i64 p.hi]
theorem Pt.cs_len (p : Pt) : p.cs.length = 4 := rfl
def partsL (c : Cf) (f tg : Int) : List Pt := [⟨[110], c.n, 1, 16⟩, ⟨[102], c.f, 0, ((c.n - 1).tdiv 3)⟩, ⟨[109], c.m, 1, 4⟩, ⟨[113, 117, 111, 114, 117, 109], c.quorum, (2 * f + 1), c.n⟩, ⟨[102, 114, 101, 115, 104], c.fresh, 1, 8⟩, ⟨[103, 114, 97, 99, 101], c.grace, 1, 100⟩, ⟨[119, 105, 110, 100, 111, 119], c.window, 1, 64⟩, ⟨[116, 97, 114, 103, 101, 116], tg, 1, 1⟩, ⟨[116, 111, 108], c.tol, 0, 1000⟩, ⟨[109, 105, 110], c.min, 1, 10000⟩, ⟨[109, 97, 120], c.max, c.min, 10000⟩, ⟨[99, 97, 108, 109, 117, 112], c.calmup, 0, 60⟩, ⟨[99, 97, 108, 109, 100, 111, 119, 110], c.calmdown, 0, 60⟩, ⟨[112, 111, 100, 115, 117, 112], c.podsup, 1, 1000⟩, ⟨[112, 99, 116, 117, 112], c.pctup, 1, 1000⟩, ⟨[112, 111, 100, 115, 100, 111, 119, 110], c.podsdown, 1, 1000⟩, ⟨[112, 99, 116, 100, 111, 119, 110], c.pctdown, 1, 100⟩, ⟨[112, 101, 114, 105, 111, 100], c.period, 1, 60⟩, ⟨[102, 97, 114], c.far, 0, 1099511627776⟩, ⟨[115, 116, 114, 105, 107, 101, 115], c.strikes, 1, 100⟩, ⟨[112, 114, 111, 98, 101], c.probe, 1, 100⟩, ⟨[115, 101, 99, 116, 111, 114, 115], c.sectors, 64, 4096⟩]
theorem parts_ok {c : Cf} (h : OkC c) : ∀ p ∈ partsL c c.f 1, p.lo ≤ p.is ∧ p.is ≤ p.hi := by
  obtain ⟨h0, h1, h2, h3, h4, h5, h6, h7, h8, h9, h10, h11, h12, h13, h14, h15, h16, h17, h18, h19, h20, h21, h22, h23, h24, h25⟩ := h
  intro p hp
  have hf : c.f ≤ (c.n - 1).tdiv 3 := by rw [Int.tdiv_eq_ediv_of_nonneg (by omega)]; omega
  simp only [partsL, List.mem_cons, List.not_mem_nil, or_false] at hp
  rcases hp with rfl | rfl | rfl | rfl | rfl | rfl | rfl | rfl | rfl | rfl | rfl | rfl | rfl | rfl | rfl | rfl | rfl | rfl | rfl | rfl | rfl | rfl <;> constructor <;> simp only <;> omega
theorem parts_get {c : Cf} (h : OkC c) {k : Nat} {p : Pt} (hp : (partsL c c.f 1)[k]? = some p) : p.lo ≤ p.is ∧ p.is ≤ p.hi := parts_ok h p (List.mem_of_getElem? hp)
theorem parts_len (c : Cf) (f tg : Int) : (partsL c f tg).length = 22 := rfl
theorem ts_ok {c : Cf} (h : OkC c) {k : Nat} {x : Int} (hx : c.ts[k]? = some x) : ((k : Int) < c.m → 1 ≤ x ∧ x ≤ 1099511627776) ∧ (c.m ≤ k → x = 0) := by
  match k, hx with
  | 0, hx => cases hx; exact h.t0
  | 1, hx => cases hx; exact h.t1
  | 2, hx => cases hx; exact h.t2
  | 3, hx => cases hx; exact h.t3
  | k + 4, hx => simp [Cf.ts] at hx
theorem okD : OkC cfD := by constructor <;> simp [cfD]
end Go.X
/- Plain words for the hash's beginning. -/
set_option linter.unusedVariables false
set_option linter.unusedSimpArgs false
namespace Go.X
open Go
def txtB : List UInt8 := [115, 111, 109, 101, 112, 115, 101, 117, 100, 111, 114, 97, 110, 100, 111, 109, 108, 121, 103, 101, 110, 101, 114, 97, 116, 101, 100, 98, 121, 116, 101, 115]
def bw (k : Nat) : Nat → Int
  | 0 => 0
  | i + 1 => bitsOf .or .u64 (IntKind.u64.wrap (bw k i * 2 ^ 8)) ((txtB.getD (8 * k + i) 0).toNat : Int)
def bx (k i j : Nat) : Int := if j < k then bw j 8 else if j = k then bw k i else 0
def begR (k i : Nat) : List Value := [.int .u64 (bx k i 0), .int .u64 (bx k i 1), .int .u64 (bx k i 2), .int .u64 (bx k i 3)]
theorem begR_nth {k i : Nat} (h : k < 4) : nth (begR k i) k = some (.int .u64 (bw k i)) := by
  have hk : k = 0 ∨ k = 1 ∨ k = 2 ∨ k = 3 := by omega
  rcases hk with rfl | rfl | rfl | rfl <;> simp [begR, bx, nth]
theorem begR_splice {k i : Nat} (h : k < 4) : splice (begR k i).toArray k [.int .u64 (bw k (i + 1))] = (begR k (i + 1)).toArray := by
  have hk : k = 0 ∨ k = 1 ∨ k = 2 ∨ k = 3 := by omega
  rcases hk with rfl | rfl | rfl | rfl <;> simp [begR, bx, splice]
theorem begR_next {k : Nat} : begR k 8 = begR (k + 1) 0 := by
  have h : ∀ j, bx k 8 j = bx (k + 1) 0 j := fun j => by
    unfold bx
    by_cases h1 : j < k
    · rw [if_pos h1, if_pos (by omega)]
    · rw [if_neg h1]
      by_cases h2 : j = k
      · rw [if_pos h2, if_pos (by omega), h2]
      · rw [if_neg h2, if_neg (by omega)]
        split <;> rfl
  simp only [begR, h]
theorem bw_0 : bw 0 8 = 0x736f6d6570736575 := by decide +kernel
theorem bw_1 : bw 1 8 = 0x646f72616e646f6d := by decide +kernel
theorem bw_2 : bw 2 8 = 0x6c7967656e657261 := by decide +kernel
theorem bw_3 : bw 3 8 = 0x7465646279746573 := by decide +kernel
def w0 : W4 := ⟨0x736f6d6570736575, 0x646f72616e646f6d, 0x6c7967656e657261, 0x7465646279746573⟩
theorem begR_end : begR 4 0 = [.int .u64 w0.a, .int .u64 w0.b, .int .u64 w0.c, .int .u64 w0.d] := by
  simp [begR, bx, bw_0, bw_1, bw_2, bw_3, w0]
theorem begR_0 : begR 0 0 = [.int .u64 0, .int .u64 0, .int .u64 0, .int .u64 0] := by simp [begR, bx, bw]
/-- one of a key's two words -/
def kk (k : K2) (j : Nat) : Int := if j % 2 = 0 then k.a else k.b
def newX (k : K2) (i j : Nat) (c : Int) : Int := if j < i then xor64 c (kk k j) else c
def newR (k : K2) (i : Nat) : List Value := [.int .u64 (newX k i 0 w0.a), .int .u64 (newX k i 1 w0.b), .int .u64 (newX k i 2 w0.c), .int .u64 (newX k i 3 w0.d), .slice none 0 0, .int .i64 0]
def wj (j : Nat) : Int := match j with | 0 => w0.a | 1 => w0.b | 2 => w0.c | _ => w0.d
theorem newR_nth {k : K2} {i : Nat} (h : i < 4) : nth (newR k i) i = some (.int .u64 (wj i)) := by
  have hk : i = 0 ∨ i = 1 ∨ i = 2 ∨ i = 3 := by omega
  rcases hk with rfl | rfl | rfl | rfl <;> simp [newR, newX, nth, wj]
theorem newR_splice {k : K2} {i : Nat} (h : i < 4) : splice (newR k i).toArray i [.int .u64 (xor64 (wj i) (kk k i))] = (newR k (i + 1)).toArray := by
  have hk : i = 0 ∨ i = 1 ∨ i = 2 ∨ i = 3 := by omega
  rcases hk with rfl | rfl | rfl | rfl <;> simp [newR, newX, splice, wj]
theorem newR_end (k : K2) : newR k 4 = [.int .u64 (keyW k.a k.b).a, .int .u64 (keyW k.a k.b).b, .int .u64 (keyW k.a k.b).c, .int .u64 (keyW k.a k.b).d, .slice none 0 0, .int .i64 0] := by
  simp [newR, newX, keyW, w0, kk]
theorem kk_nth (k : K2) (i : Nat) : nth [Value.int .u64 k.a, .int .u64 k.b] (i % 2) = some (.int .u64 (kk k i)) := by
  have h : i % 2 = 0 ∨ i % 2 = 1 := by omega
  rcases h with h | h <;> simp [kk, h, nth]
theorem get8_drop (l : List UInt8) (o : Nat) : get8 (l.drop o) 0 = get8 l o := by
  have h : ∀ n, getTo (l.drop o) 0 n = getTo l o n := fun n => by
    induction n with
    | zero => rfl
    | succ n ih => simp only [getTo, ih]; simp [List.getD_eq_getElem?_getD]
  exact h 8
theorem drop_8 (l : List UInt8) (j : Nat) : (l.drop (8 * j)).drop 8 = l.drop (8 * (j + 1)) := by rw [List.drop_drop]; congr 1
theorem rem_nat (i n : Nat) : (i : Int).tmod (n : Int) = ((i % n : Nat) : Int) := by
  rw [Int.tmod_eq_emod_of_nonneg (by omega), Int.natCast_emod]
end Go.X
namespace Go.X
theorem takeW_eq {m : Int} {w v : W4} (h : rounds 2 { w with d := xor64 w.d m } = v) : takeW m w = ⟨xor64 v.a m, v.b, v.c, v.d⟩ := by subst h; rfl
theorem endW_eq {w v : W4} (h : rounds 4 { w with c := xor64 w.c 255 } = v) : endW w = xor64 (xor64 (xor64 v.a v.b) v.c) v.d := by subst h; rfl
end Go.X
namespace Go.X
open Go Go.RowKit
theorem slOk.cap {s : Sl} {n : Nat} {xs : List Value} (h : slOk s 1 n xs) : n ≤ slC s := by
  obtain ⟨h1, h2⟩ := h
  cases s with
  | none => simp at h2; simp [slC]; omega
  | some x => obtain ⟨b, c, sp⟩ := x; simp at h1 h2; simp [slC]; omega
theorem rdS_drop8 {M : Hp} {A : Option Addr} {l : List UInt8} {c : Nat} (h : RdS M A (bv l)) (hl : 8 ≤ l.length) (hc : l.length ≤ c) : RdS M (if c = 8 then A else A.map (·.add (8 * 1))) (bv (l.drop 8)) := by
  by_cases h8 : c = 8
  · rw [List.drop_eq_nil_of_le (by omega)]; exact .nil _ _
  · rw [if_neg h8]
    obtain ⟨b, o, rfl, hR⟩ := RdS.get h (by simp; omega)
    rw [Option.map_some, addr_add, bv_drop]
    exact .some (hR.drop 8)
theorem ro_mid {z : World} {x : Nat × Obj} {L M : Hp} : ∀ w, Own z w (L ++ x :: M) → Own z w (x :: (L ++ M)) := fun w h => h.perm List.perm_middle
theorem ro_mid2 {z : World} {x y : Nat × Obj} {L M : Hp} : ∀ w, Own z w (L ++ x :: y :: M) → Own z w (x :: y :: (L ++ M)) := fun w h => h.perm (List.perm_middle.trans (List.perm_middle.cons x))
theorem ro_dim2 {z : World} {x y : Nat × Obj} {L M : Hp} : ∀ w, Own z w (x :: y :: (L ++ M)) → Own z w (L ++ x :: y :: M) := fun w h => h.perm (List.perm_middle.trans (List.perm_middle.cons x)).symm
theorem lastB_eq (l : List UInt8) : l.drop (8 * (l.length / 8)) ++ List.replicate (7 - (l.drop (8 * (l.length / 8))).length) 0 ++ [b8 l.length] = lastB l := by
  unfold lastB
  rw [List.length_drop]
  congr 4
  omega
end Go.X
/- Plain words for messages that may be; for lists put together. -/
set_option linter.unusedVariables false
set_option linter.unusedSimpArgs false
namespace Go.X
open Go Go.RowKit
abbrev Bs := Option Addr × List UInt8 × Nat
abbrev bsV (x : Bs) : Value := .slice x.1 x.2.1.length x.2.2
def cat (q : List Bs) : List UInt8 := q.flatMap (·.2.1)
theorem catS {q : List Bs} {k : Nat} {x : Bs} (h : q[k]? = some x) : cat (q.take (k + 1)) = cat (q.take k) ++ x.2.1 := by
  simp [cat, List.take_add_one, h, List.flatMap_append]
theorem cat_le (q : List Bs) (k : Nat) : (cat (q.take k)).length ≤ (cat q).length := by
  have h : cat q = cat (q.take k) ++ cat (q.drop k) := by rw [cat, cat, cat, ← List.flatMap_append, List.take_append_drop]
  rw [h, List.length_append]; omega
theorem cat_all (q : List Bs) : cat (q.take q.length) = cat q := by rw [List.take_length]
theorem cat3 (A B C : Option Addr) (a b c : List UInt8) (x y z : Nat) : cat [(A, a, x), (B, b, y), (C, c, z)] = a ++ b ++ c := by simp [cat]
def dR (k : K2) (lab : List UInt8) (n : Int) (i : Nat) : List Value := [.int .u64 (if 0 < i then derive1 k lab n 0 else 0), .int .u64 (if 1 < i then derive1 k lab n 1 else 0)]
theorem dR_splice {k : K2} {lab : List UInt8} {n : Int} {i : Nat} (h : i < 2) : splice (dR k lab n i).toArray i [.int .u64 (derive1 k lab n i)] = (dR k lab n (i + 1)).toArray := by
  have hk : i = 0 ∨ i = 1 := by omega
  rcases hk with rfl | rfl <;> simp [dR, splice]
theorem dR_0 (k : K2) (lab : List UInt8) (n : Int) : dR k lab n 0 = [.int .u64 0, .int .u64 0] := by simp [dR]
theorem dR_2 (k : K2) (lab : List UInt8) (n : Int) : dR k lab n 2 = [.int .u64 (deriveK k lab n).a, .int .u64 (deriveK k lab n).b] := by simp [dR, deriveK]
theorem mayM_iff {m : Ms} : mayM m = true ↔ (1 ≤ m.kind ∧ m.kind ≤ 3) ∧ (0 ≤ m.who ∧ m.who ≤ 15) ∧ (0 ≤ m.gen ∧ m.gen ≤ 60000) ∧ (1 ≤ m.seq ∧ m.seq ≤ 1099511627776) ∧ (0 ≤ m.epoch ∧ m.epoch ≤ 1099511627776) ∧ (0 ≤ m.metric ∧ (m.kind = 1 → m.metric ≤ 3) ∧ (m.kind ≠ 1 → m.metric ≤ 0)) ∧ (0 ≤ m.value ∧ (m.kind = 1 → m.value ≤ 1099511627776) ∧ (m.kind ≠ 1 → m.value ≤ 0)) := by
  simp only [mayM, inB, Bool.and_eq_true, decide_eq_true_eq]
  by_cases h : m.kind = 1
  · simp only [h]; simp; omega
  · simp only [h]; simp; omega
def tailB (m : Ms) : List Int := [m.seq, m.epoch, m.value]
def headM (m : Ms) : List UInt8 := [1, b8 m.kind, b8 m.who, b8 m.metric] ++ (put8 (IntKind.u64.wrap m.gen)).take 4
def putTo (m : Ms) (k : Nat) : List UInt8 := headM m ++ ((tailB m).take k).flatMap fun x => put8 (IntKind.u64.wrap x)
theorem putTo_S {m : Ms} {k : Nat} {x : Int} (h : (tailB m)[k]? = some x) : putTo m (k + 1) = putTo m k ++ put8 (IntKind.u64.wrap x) := by
  simp [putTo, List.take_add_one, h]
theorem putTo_len (m : Ms) {k : Nat} (h : k ≤ 3) : (putTo m k).length = 8 + 8 * k := by
  have hk : k = 0 ∨ k = 1 ∨ k = 2 ∨ k = 3 := by omega
  rcases hk with rfl | rfl | rfl | rfl <;> simp [putTo, headM, tailB]
theorem putTo_3 (m : Ms) : putTo m 3 = putM m := by simp [putTo, putM, headM, tailB]
theorem putTo_0 (m : Ms) : putTo m 0 = headM m := by simp [putTo]
end Go.X
/- Plain words for what is made of numbers. -/
set_option linter.unusedVariables false
set_option linter.unusedSimpArgs false
namespace Go.X
open Go Go.RowKit
theorem rem_ex {m d : Int} (hm : 0 ≤ m) (hd : 0 < d) : ∃ r, m.tmod d = r ∧ 0 ≤ r ∧ r < d :=
  ⟨_, rfl, Int.tmod_nonneg _ hm, Int.tmod_lt_of_pos _ hd⟩
theorem quo_ex {m d : Int} (hm : 0 ≤ m) (hd : 0 < d) : ∃ r, m.tdiv d = r ∧ 0 ≤ r ∧ r ≤ m :=
  ⟨_, rfl, Int.tdiv_nonneg hm (by omega), Int.tdiv_le_self _ hm⟩
theorem list20 {q : List Int} (h : q.length = 20) : ∃ q0 q1 q2 q3 q4 q5 q6 q7 q8 q9 q10 q11 q12 q13 q14 q15 q16 q17 q18 q19, q = [q0, q1, q2, q3, q4, q5, q6, q7, q8, q9, q10, q11, q12, q13, q14, q15, q16, q17, q18, q19] := by
  match q, h with
  | [q0, q1, q2, q3, q4, q5, q6, q7, q8, q9, q10, q11, q12, q13, q14, q15, q16, q17, q18, q19], _ => exact ⟨q0, q1, q2, q3, q4, q5, q6, q7, q8, q9, q10, q11, q12, q13, q14, q15, q16, q17, q18, q19, rfl⟩
theorem set_bd {q : List Int} {i : Nat} {r : Int} (h : ∀ x ∈ q, 0 ≤ x ∧ x < 100000) (hr : 0 ≤ r ∧ r < 100000) : ∀ x ∈ q.set i r, 0 ≤ x ∧ x < 100000 := fun x hx => by
  rcases List.mem_or_eq_of_mem_set hx with h1 | rfl
  · exact h x h1
  · exact hr
def tR (a b : Int) (i : Nat) (x0 x1 : Int) : List Int := [if 0 < i then x0 else a, if 1 < i then x1 else b]
theorem ts_Z {k : Nat} {x : Int} (hx : cfZ.ts[k]? = some x) : ((k : Int) < cfZ.m → 1 ≤ x ∧ x ≤ 1099511627776) ∧ (cfZ.m ≤ k → x = 0) := by
  match k, hx with
  | 0, hx => cases hx; simp [cfZ]
  | 1, hx => cases hx; simp [cfZ]
  | 2, hx => cases hx; simp [cfZ]
  | 3, hx => cases hx; simp [cfZ]
  | k + 4, hx => simp [Cf.ts] at hx
theorem nth_map {f : Int → Value} {zs : List Int} {k : Nat} {x : Int} (h : zs[k]? = some x) : nth (zs.map f) k = some (f x) := by rw [nth_eq, List.getElem?_map, h]; rfl
def tg (c : Cf) : Prop := ∀ (k : Nat) (x : Int), c.ts[k]? = some x → ((k : Int) < c.m → 1 ≤ x ∧ x ≤ 1099511627776) ∧ (c.m ≤ k → x = 0)
theorem tg_ok {c : Cf} (h : OkC c) : tg c := fun k x hx => ts_ok h hx
theorem tg_Z : tg cfZ := fun k x hx => ts_Z hx
theorem quo3 {n : Int} (h : 0 ≤ n ∧ n ≤ 1000) : -1 ≤ (n - 1).tdiv 3 ∧ (n - 1).tdiv 3 ≤ 1000 := by
  by_cases h0 : n = 0
  · subst h0; decide
  · rw [Int.tdiv_eq_ediv_of_nonneg (by omega)]; omega
end Go.X
/- Plain words: what is made of numbers may be so. -/
namespace Go.X
theorem fit_n {a0 a1 : Int} (h1 : 0 ≤ a0) (h2 : a0 < 3) (h3 : 0 ≤ a1) (h4 : a1 < 4) : 1 ≤ 3 * a0 + 1 + a1 ∧ 3 * a0 + 1 + a1 ≤ 16 := by omega
theorem fit_s {a k n : Int} (h1 : 0 ≤ a) (h2 : a < k) (h : k ≤ n) : 1 ≤ 1 + a ∧ 1 + a ≤ n := by omega
theorem fit_z {a k n : Int} (h1 : 0 ≤ a) (h2 : a < k) (h : k ≤ n) : 0 ≤ a ∧ a ≤ n := by omega
theorem fit_sec {a : Int} (h1 : 0 ≤ a) (h2 : a < 300) : 64 ≤ 64 + a ∧ 64 + a ≤ 4096 := by omega
theorem fit_f {a0 a1 : Int} (h1 : 0 ≤ a0) (h3 : 0 ≤ a1) : 0 ≤ a0 ∧ 3 * a0 + 1 ≤ 3 * a0 + 1 + a1 := by omega
theorem fit_q {a0 a1 a3 : Int} (h1 : 0 ≤ a3) (h2 : a3 < 3 * a0 + 1 + a1 - 2 * a0) : 2 * a0 + 1 ≤ 2 * a0 + 1 + a3 ∧ 2 * a0 + 1 + a3 ≤ 3 * a0 + 1 + a1 := by omega
theorem fit_max {a c : Int} (h1 : 0 ≤ a) (h2 : a < 5) (h3 : 0 ≤ c) (h4 : c < 60) : 1 + a ≤ 1 + a + c ∧ 1 + a + c ≤ 10000 := by omega
theorem fit_t0 {T a : Int} (h : 1 ≤ T ∧ T ≤ 2000) (h1 : 0 ≤ a) : (0 < 1 + a → 1 ≤ T ∧ T ≤ 1099511627776) ∧ (1 + a ≤ 0 → T = 0) := by omega
theorem fit_t1 {T a : Int} (h : (1 < 1 + a → 1 ≤ T ∧ T ≤ 2000) ∧ (1 + a ≤ 1 → T = 0)) : (1 < 1 + a → 1 ≤ T ∧ T ≤ 1099511627776) ∧ (1 + a ≤ 1 → T = 0) := by omega
theorem fit_t2 {a k : Int} (h : a < 2) (hk : 2 ≤ k) : (k < 1 + a → 1 ≤ (0 : Int) ∧ (0 : Int) ≤ 1099511627776) ∧ (1 + a ≤ k → (0 : Int) = 0) := by omega
theorem fit_fin {a0 a1 a2 a3 a4 a5 a6 a9 a10 a11 a12 a13 a14 a15 a16 a17 a18 c10 c13 c14 c17 T0 T1 q19 : Int} (ga0 : 0 ≤ a0) (la0 : a0 < 3) (ga1 : 0 ≤ a1) (la1 : a1 < 4) (ga2 : 0 ≤ a2) (la2 : a2 < 2) (ga3 : 0 ≤ a3) (la3 : a3 < 3 * a0 + 1 + a1 - 2 * a0) (ga4 : 0 ≤ a4) (la4 : a4 < 3) (ga5 : 0 ≤ a5) (la5 : a5 < 3) (ga6 : 0 ≤ a6) (la6 : a6 < 64)
    (ga9 : 0 ≤ a9) (la9 : a9 < 300) (ga10 : 0 ≤ a10) (la10 : a10 < 5) (ga11 : 0 ≤ a11) (la11 : a11 < 4) (ga12 : 0 ≤ a12) (la12 : a12 < 5) (ga13 : 0 ≤ a13) (la13 : a13 < 5) (ga14 : 0 ≤ a14) (la14 : a14 < 5) (ga15 : 0 ≤ a15) (la15 : a15 < 4) (ga16 : 0 ≤ a16) (la16 : a16 < 500) (ga17 : 0 ≤ a17) (la17 : a17 < 3) (ga18 : 0 ≤ a18) (la18 : a18 < 300)
    (gc10 : 0 ≤ c10) (lc10 : c10 < 60) (gc13 : 0 ≤ c13) (lc13 : c13 < 150) (gc14 : 0 ≤ c14) (lc14 : c14 < 100) (gc17 : 0 ≤ c17) (lc17 : c17 < 4) (hT0b : 1 ≤ T0 ∧ T0 ≤ 2000) (hT1b : (1 < 1 + a2 → 1 ≤ T1 ∧ T1 ≤ 2000) ∧ (1 + a2 ≤ 1 → T1 = 0)) (hq : 0 ≤ q19 ∧ q19 < 100000) :
    OkC ⟨3 * a0 + 1 + a1, a0, 1 + a2, 2 * a0 + 1 + a3, 1 + a4, 1 + a5, 1 + a6, T0, T1, 0, 0, a9, 1 + a10, 1 + a10 + c10, a11, a12, 1 + a13, 1 + c13, 1 + a14, 1 + c14, 1 + a15, a16, 1 + a17, 1 + c17, 64 + a18, q19⟩ :=
  ⟨fit_n ga0 la0 ga1 la1, fit_s ga2 la2 (by decide), fit_s ga4 la4 (by decide), fit_s ga5 la5 (by decide), fit_s ga6 la6 (by decide), fit_z ga9 la9 (by decide), fit_s ga10 la10 (by decide), fit_z ga11 la11 (by decide), fit_z ga12 la12 (by decide), fit_s ga13 la13 (by decide), fit_s gc13 lc13 (by decide), fit_s ga14 la14 (by decide), fit_s gc14 lc14 (by decide), fit_s ga15 la15 (by decide), fit_z ga16 la16 (by decide), fit_s ga17 la17 (by decide), fit_s gc17 lc17 (by decide), fit_sec ga18 la18, fit_z hq.1 hq.2 (by decide),
   fit_f ga0 ga1, fit_q ga3 la3, fit_max ga10 la10 gc10 lc10, fit_t0 hT0b ga2, fit_t1 hT1b, fit_t2 la2 (by decide), fit_t2 la2 (by decide)⟩
end Go.X
