/- The engine: a Hoare-like judgement over frames given as lists of slots and heaps given as lists of blocks. -/
import Derived.WalkKit
import Derived.KernelRfl
import Derived.OrdersHeld
import Derived.Deep.RegionHeld3
set_option linter.unusedVariables false
set_option linter.unusedSimpArgs false
namespace Go.X
open Go Go.RowKit

abbrev Env := List (Nat × Value)
abbrev Hp := List (Nat × Obj)

/-- What a slot holds, by the list. -/
def look : Env → Nat → Option Value
  | [], _ => none
  | (k, v) :: r, n => bif Nat.beq k n then some v else look r n

/-- What an operand holds, by the list. -/
def ev (E : Env) : Operand → Option Value
  | .tmp t => look E t
  | .const v => some v
  | .global g => some (.pointer (some ⟨g, 0, none⟩))
  | .func f => some (.func (.func f) #[] #[])

structure Has (N : Nat) (E : Env) (a : Act) : Prop where
  size : a.tmps.size = N
  defers : a.defers = []
  get : ∀ t v, look E t = some v → a.tmps.getD t undef = v

theorem Has.ev {N : Nat} {E : Env} {a : Act} (h : Has N E a) {x : Operand} {v : Value} (hx : ev E x = some v) : a.eval x = v := by
  cases x with
  | tmp t => exact h.get t v hx
  | const u => simpa [X.ev, Act.eval] using hx
  | global g => simpa [X.ev, Act.eval] using hx
  | func f => simpa [X.ev, Act.eval] using hx

theorem look_cons_same (d : Nat) (v : Value) (E : Env) : look ((d, v) :: E) d = some v := by simp [look]
theorem look_cons_ne (d t : Nat) (v : Value) (E : Env) (h : d ≠ t) : look ((d, v) :: E) t = look E t := by
  have : Nat.beq d t = false := by
    cases hb : Nat.beq d t with
    | false => rfl
    | true => exact absurd (Nat.eq_of_beq_eq_true hb) h
  simp [look, this]

theorem Has.put {N : Nat} {E : Env} {a : Act} (h : Has N E a) {d : Nat} (hd : d < N) (v : Value) : Has N ((d, v) :: E) (a.put (some d) v) := by
  refine ⟨by simp [Act.put, h.size], h.defers, fun t u hu => ?_⟩
  have hs := h.size
  by_cases e : d = t
  · subst e
    rw [look_cons_same] at hu
    cases hu
    simp [Act.put, Array.getD_eq_getD_getElem?, hs, hd]
  · rw [look_cons_ne _ _ _ _ e] at hu
    have := h.get t u hu
    simp only [Act.put, Array.getD_eq_getD_getElem?, Array.getElem?_setIfInBounds, e, if_false] at this ⊢
    exact this

theorem Has.putNone {N : Nat} {E : Env} {a : Act} (h : Has N E a) (v : Value) : Has N E (a.put none v) := h

/-- E' says no more than E. -/
def Sub (E' E : Env) : Prop := ∀ t v, look E' t = some v → look E t = some v
theorem Sub.nil (E : Env) : Sub [] E := fun _ _ h => by simp [look] at h
theorem Sub.refl (E : Env) : Sub E E := fun _ _ h => h
theorem Sub.cons {E' E : Env} {d : Nat} {v : Value} (h : look E d = some v) (hs : Sub E' E) : Sub ((d, v) :: E') E := fun t u hu => by
  by_cases e : d = t
  · subst e; rw [look_cons_same] at hu; cases hu; exact h
  · rw [look_cons_ne _ _ _ _ e] at hu; exact hs t u hu
theorem Has.sub {N : Nat} {E E' : Env} {a : Act} (h : Has N E a) (hs : Sub E' E) : Has N E' a := ⟨h.size, h.defers, fun t v hv => h.get t v (hs t v hv)⟩

/-- The frame at entry: arguments, then slots that hold nothing. -/
def argEnv : Nat → List Value → Env
  | _, [] => []
  | k, v :: r => (k, v) :: argEnv (k + 1) r

theorem look_argEnv (l : List Value) : ∀ k t v, look (argEnv k l) t = some v → ∃ j, t = k + j ∧ l[j]? = some v := by
  induction l with
  | nil => intro k t v h; simp [argEnv, look] at h
  | cons u r ih =>
    intro k t v h
    by_cases e : k = t
    · subst e; rw [argEnv, look_cons_same] at h; cases h; exact ⟨0, by simp, by simp⟩
    · rw [argEnv, look_cons_ne _ _ _ _ e] at h
      obtain ⟨j, rfl, hj⟩ := ih _ _ _ h
      exact ⟨j + 1, by omega, by simpa using hj⟩

theorem Has.entry (args : Array Value) (N : Nat) (h : args.size ≤ N) :
    Has N (argEnv 0 args.toList) { tmps := args ++ Array.replicate (N - args.size) undef, defers := [] } := by
  refine ⟨by simp; omega, rfl, fun t v hv => ?_⟩
  obtain ⟨j, rfl, hj⟩ := look_argEnv _ _ _ _ hv
  have hlt : j < args.size := by
    rcases Nat.lt_or_ge j args.size with h | h
    · exact h
    · simp [h] at hj
  simp [Array.getD_eq_getD_getElem?, Array.getElem?_append, hlt] at hj ⊢
  simpa using hj

/-! ### The heap -/

/-- The world w holds (at least) the blocks of M, which are apart; its streams are z's. -/
structure Own (z w : World) (M : Hp) : Prop where
  os : w.os = z.os
  tape : w.tape = z.tape
  output : w.output = z.output
  nodup : (M.map (·.1)).Nodup
  mem : ∀ b o, (b, o) ∈ M → w.heap[b]? = some o

theorem Own.lt {z w : World} {M : Hp} (h : Own z w M) {b : Nat} {o : Obj} (hm : (b, o) ∈ M) : b < w.heap.size :=
  (Array.getElem?_eq_some_iff.1 (h.mem b o hm)).1

theorem Own.at {z w : World} {M : Hp} (h : Own z w M) {i b : Nat} {o : Obj} (hi : M[i]? = some (b, o)) : w.heap[b]? = some o :=
  h.mem b o (List.mem_of_getElem? hi)

theorem Own.drew {z w : World} {M : Hp} (h : Own z w M) : Own z w.drew M := ⟨h.os, h.tape, h.output, h.nodup, h.mem⟩
theorem Own.drawn {z w : World} {M : Hp} (h : Own z w M) (n : Nat) : Own z { w with drawn := n } M := ⟨h.os, h.tape, h.output, h.nodup, h.mem⟩

theorem Own.alloc {z w : World} {M : Hp} (h : Own z w M) (o : Obj) : Own z (w.alloc o) ((w.heap.size, o) :: M) := by
  refine ⟨h.os, h.tape, h.output, ?_, fun b u hm => ?_⟩
  · simp only [List.map_cons, List.nodup_cons]
    refine ⟨fun hm => ?_, h.nodup⟩
    obtain ⟨⟨b, u⟩, hb, he⟩ := List.mem_map.1 hm
    have := h.lt hb
    simp at he
    omega
  · rcases List.mem_cons.1 hm with he | hm
    · cases he
      exact heap_alloc_new w o
    · exact (Below.heap_alloc w o _ (h.lt hm)).trans (h.mem b u hm)

/-- Another list of the same blocks, or of some of them. -/
theorem Own.perm {z w : World} {M M' : Hp} (h : Own z w M) (hp : M.Perm M') : Own z w M' :=
  ⟨h.os, h.tape, h.output, (hp.map (·.1)).nodup_iff.1 h.nodup, fun b o hm => h.mem b o (hp.mem_iff.2 hm)⟩

theorem Own.sublist {z w : World} {M M' : Hp} (h : Own z w M) (hs : M'.Sublist M) : Own z w M' :=
  ⟨h.os, h.tape, h.output, h.nodup.sublist (hs.map (·.1)), fun b o hm => h.mem b o (hs.subset hm)⟩

theorem Own.drop {z w : World} {b : Nat} {o : Obj} {M : Hp} (h : Own z w ((b, o) :: M)) : Own z w M := h.sublist (List.sublist_cons_self _ _)

theorem perm_front {α : Type} {M : List α} {i : Nat} {x : α} (h : M[i]? = some x) : M.Perm (x :: M.eraseIdx i) := by
  induction M generalizing i with
  | nil => simp at h
  | cons y r ih =>
    cases i with
    | zero => simp at h; subst h; simp
    | succ i =>
      simp at h
      exact ((ih h).cons y).trans (List.Perm.swap x y _)

/-- Block number i to the front. -/
theorem Own.front {z w : World} {M : Hp} (h : Own z w M) (i : Nat) {x : Nat × Obj} (hi : M[i]? = some x) : Own z w (x :: M.eraseIdx i) := h.perm (perm_front hi)

/-- The front block at place i. -/
theorem perm_back {α : Type} (x : α) (L R : List α) : (x :: (L ++ R)).Perm (L ++ x :: R) := (List.perm_middle).symm

/-- A block is written whole. -/
theorem Own.setFront {z w w' : World} {M : Hp} {b : Nat} {o o' : Obj} (h : Own z w ((b, o) :: M)) (hos : w'.os = w.os) (ht : w'.tape = w.tape) (hout : w'.output = w.output)
    (hb : w'.heap[b]? = some o') (hk : ∀ k, k ≠ b → w'.heap[k]? = w.heap[k]?) : Own z w' ((b, o') :: M) := by
  refine ⟨hos.trans h.os, ht.trans h.tape, hout.trans h.output, h.nodup, fun k u hm0 => ?_⟩
  rcases List.mem_cons.1 hm0 with he | hm
  · cases he; exact hb
  · have hne : k ≠ b := by
      have hn := h.nodup
      simp only [List.map_cons, List.nodup_cons] at hn
      intro e
      subst e
      exact hn.1 (List.mem_map.2 ⟨_, hm, rfl⟩)
    rw [hk k hne]
    exact h.mem k u (List.mem_cons_of_mem _ hm)

theorem set_perm_front {α : Type} {M : List α} {i : Nat} {x y : α} (h : M[i]? = some x) : (y :: M.eraseIdx i).Perm (M.set i y) := by
  induction M generalizing i with
  | nil => simp at h
  | cons u r ih =>
    cases i with
    | zero => simp
    | succ i =>
      simp at h
      simp only [List.eraseIdx_cons_succ, List.set_cons_succ]
      exact (List.Perm.swap u y _).trans ((ih h).cons u)

theorem Own.setAt {z w w' : World} {M : Hp} {i b : Nat} {o o' : Obj} (h : Own z w M) (hi : M[i]? = some (b, o)) (hos : w'.os = w.os) (ht : w'.tape = w.tape) (hout : w'.output = w.output)
    (hb : w'.heap[b]? = some o') (hk : ∀ k, k ≠ b → w'.heap[k]? = w.heap[k]?) : Own z w' (M.set i (b, o')) :=
  ((h.front i hi).setFront hos ht hout hb hk).perm (set_perm_front hi)

/-! ### The judgements -/

section
variable (P : Program) (N : Nat) (z : World)

def TC (Q : Exit → Act → World → Prop) (c : Code) (E : Env) (M : Hp) : Prop := ∀ a w, Has N E a → Own z w M → c.wp P Q a w

def TL (ops : Array Oper) (Q : Exit → Act → World → Prop) (l : List Oper) (E : Env) (M : Hp) : Prop := ∀ a w, Has N E a → Own z w M → wpList P ops Q l a w

/-- What holds at an exit. -/
def AtX (Q : Exit → Act → World → Prop) (e : Exit) (E : Env) (M : Hp) : Prop := ∀ a w, Has N E a → Own z w M → Q e a w
end

/-- The contract of a function: with these arguments, in any world that holds M, it returns v, and the world then holds M', R of both. -/
def FnC (P : Program) (f : FuncId) (args : Array Value) (M : Hp) (R : Value → Hp → Prop) : Prop :=
  ∀ z w, Own z w M → Calls P f args w fun e w' => ∃ v M', e = .returned v ∧ R v M' ∧ Own z w' M'

theorem FnC.mono {P : Program} {f : FuncId} {args : Array Value} {M : Hp} {R R' : Value → Hp → Prop} (h : FnC P f args M R) (hr : ∀ v M', R v M' → R' v M') : FnC P f args M R' :=
  fun z w hw => (h z w hw).mono fun _ _ ⟨v, M', he, hR, ho⟩ => ⟨v, M', he, hr _ _ hR, ho⟩

theorem FnC.pre {P : Program} {f : FuncId} {args : Array Value} {M M' : Hp} {R : Value → Hp → Prop} (h : FnC P f args M' R) (hp : ∀ z w, Own z w M → Own z w M') : FnC P f args M R :=
  fun z w hw => h z w (hp z w hw)

/-- What a function's frame hands back. -/
def resOf (fn : Func) (E : Env) : Option Value :=
  match fn.results.toList with
  | [] => some (.tuple #[])
  | [.tmp t] => look E t
  | [.tmp t, .tmp u] => (look E t).bind fun x => (look E u).map fun y => .tuple #[x, y]
  | [.tmp t, .tmp u, .tmp s] => (look E t).bind fun x => (look E u).bind fun y => (look E s).map fun q => .tuple #[x, y, q]
  | [.tmp t, .tmp u, .tmp s, .tmp r] => (look E t).bind fun x => (look E u).bind fun y => (look E s).bind fun q => (look E r).map fun p => .tuple #[x, y, q, p]
  | _ => none

theorem Has.get' {N : Nat} {E : Env} {a : Act} (h : Has N E a) (t : Nat) (v : Value) (hv : look E t = some v) : a.tmps[t]?.getD undef = v := by
  rw [← Array.getD_eq_getD_getElem?]; exact h.get t v hv

theorem resOf_run {fn : Func} {E : Env} {v : Value} (h : resOf fn E = some v) {N : Nat} {a : Act} (ha : Has N E a) (P : Program) (w : World) :
    (results fn a.tmps).run P w = .ok v w := by
  obtain ⟨l, hl⟩ : ∃ l, fn.results = l.toArray := ⟨fn.results.toList, by simp⟩
  simp only [resOf, hl] at h
  split at h
  · cases h; simp [results, hl]
  · simp [results, hl, ha.get' _ v h]
  · simp only [Option.bind_eq_some_iff, Option.map_eq_some_iff] at h
    obtain ⟨x, hx, y, hy, rfl⟩ := h
    simp [results, hl, ha.get' _ _ hx, ha.get' _ _ hy]
  · simp only [Option.bind_eq_some_iff, Option.map_eq_some_iff] at h
    obtain ⟨x, hx, y, hy, q, hq, rfl⟩ := h
    simp [results, hl, ha.get' _ _ hx, ha.get' _ _ hy, ha.get' _ _ hq]
  · simp only [Option.bind_eq_some_iff, Option.map_eq_some_iff] at h
    obtain ⟨x, hx, y, hy, q, hq, p, hp, rfl⟩ := h
    simp [results, hl, ha.get' _ _ hx, ha.get' _ _ hy, ha.get' _ _ hq, ha.get' _ _ hp]
  · cases h

/-- What a function must show at its end. -/
def FnQ (P : Program) (fn : Func) (z : World) (R : Value → Hp → Prop) : Exit → Act → World → Prop :=
  bodyPost P fn fun e w' => ∃ v M', e = .returned v ∧ R v M' ∧ Own z w' M'

theorem FnC.intro {P : Program} {f : FuncId} {fn : Func} {c : Code} {args : Array Value} {M : Hp} {R : Value → Hp → Prop} (hf : P.funcs[f]? = some fn) (hb : fn.body = some c)
    (N : Nat) (hN : fn.ntmps = N) (hs : args.size ≤ N) (h : ∀ z, TC P N z (FnQ P fn z R) c (argEnv 0 args.toList) M) : FnC P f args M R := by
  intro z w hw
  refine calls_of_wp hf hb ?_
  rw [hN]
  exact h z _ w (Has.entry args N hs) hw

theorem TC.ret {P : Program} {N : Nat} {z : World} {Q : Exit → Act → World → Prop} {fn : Func} {R : Value → Hp → Prop} {E : Env} {M : Hp} {v : Value}
    (hQ : ∀ a w, FnQ P fn z R .ret a w → Q .ret a w) (hv : resOf fn E = some v) (hR : R v M) : TC P N z Q .ret E M :=
  fun a w ha hw => wp_ret (hQ a w ⟨ha.defers, v, resOf_run hv ha P w, v, M, rfl, hR, hw⟩)

theorem AtX.end {P : Program} {N : Nat} {z : World} {fn : Func} {R : Value → Hp → Prop} {E : Env} {M : Hp} {v : Value}
    (hv : resOf fn E = some v) (hR : R v M) : AtX N z (FnQ P fn z R) .normal E M :=
  fun a w ha hw => ⟨ha.defers, v, resOf_run hv ha P w, v, M, rfl, hR, hw⟩

section
variable {P : Program} {N : Nat} {z : World} {Q : Exit → Act → World → Prop} {E : Env} {M : Hp}

theorem TC.seq {x y : Code} (h : TC P N z (Exit.then (y.wp P Q) Q) x E M) : TC P N z Q (.seq x y) E M := fun a w ha hw => wp_seq (h a w ha hw)

theorem TC.skip (h : AtX N z Q .normal E M) : TC P N z Q .skip E M := fun a w ha hw => wp_skip (h a w ha hw)
theorem TC.exit {id : Nat} (h : AtX N z Q (.exit id) E M) : TC P N z Q (.exit id) E M := fun a w ha hw => wp_exit (h a w ha hw)
theorem TC.block {id : Nat} {c : Code} (h : TC P N z (Exit.inBlock id Q) c E M) : TC P N z Q (.block id c) E M := fun a w ha hw => wp_block (h a w ha hw)

theorem TC.region {id : Nat} {l : List Oper} (h : TL P N z l.toArray Q l E M) : TC P N z Q (.region id l.toArray false) E M := fun a w ha hw => wp_region_lit (h a w ha hw)

theorem TC.cond {c : Operand} {x y : Code} {t : Bool} (hc : ev E c = some (.bool t)) (h1 : t = true → TC P N z Q x E M) (h2 : t = false → TC P N z Q y E M) : TC P N z Q (.cond c x y) E M :=
  fun a w ha hw => wp_cond_split (ha.ev hc) (fun e => h1 e a w ha hw) (fun e => h2 e a w ha hw)

theorem TC.condP {c : Operand} {x y : Code} {p : Prop} {dp : Decidable p} (hc : ev E c = some (.bool (decide p))) (h1 : p → TC P N z Q x E M) (h2 : ¬ p → TC P N z Q y E M) : TC P N z Q (.cond c x y) E M :=
  TC.cond hc (fun e => h1 (of_decide_eq_true e)) (fun e => h2 (of_decide_eq_false e))

theorem TC.condT {c : Operand} {x y : Code} (hc : ev E c = some (.bool true)) (h : TC P N z Q x E M) : TC P N z Q (.cond c x y) E M := TC.cond hc (fun _ => h) (fun e => by cases e)
theorem TC.condF {c : Operand} {x y : Code} (hc : ev E c = some (.bool false)) (h : TC P N z Q y E M) : TC P N z Q (.cond c x y) E M := TC.cond hc (fun e => by cases e) (fun _ => h)

/-- Behind a piece of code: the code that follows. -/
theorem AtX.then {y : Code} (h : TC P N z Q y E M) : AtX N z (Exit.then (y.wp P Q) Q) .normal E M := fun a w ha hw => h a w ha hw
theorem AtX.weak {e : Exit} {E' : Env} {M' : Hp} (hE : Sub E' E) (hM : ∀ w, Own z w M → Own z w M') (h : AtX N z Q e E' M') : AtX N z Q e E M := fun a w ha hw => h a w (ha.sub hE) (hM w hw)
theorem TC.weak {c : Code} {E' : Env} {M' : Hp} (hE : Sub E' E) (hM : ∀ w, Own z w M → Own z w M') (h : TC P N z Q c E' M') : TC P N z Q c E M := fun a w ha hw => h a w (ha.sub hE) (hM w hw)
theorem TC.env {c : Code} {E' : Env} (hE : Sub E' E) (h : TC P N z Q c E' M) : TC P N z Q c E M := fun a w ha hw => h a w (ha.sub hE) hw
theorem TC.heap {c : Code} {M' : Hp} (hM : ∀ w, Own z w M → Own z w M') (h : TC P N z Q c E M') : TC P N z Q c E M := fun a w ha hw => h a w ha (hM w hw)
theorem TL.heap {ops : Array Oper} {l : List Oper} {M' : Hp} (hM : ∀ w, Own z w M → Own z w M') (h : TL P N z ops Q l E M') : TL P N z ops Q l E M := fun a w ha hw => h a w ha (hM w hw)
theorem TL.env {ops : Array Oper} {l : List Oper} {E' : Env} (hE : Sub E' E) (h : TL P N z ops Q l E' M) : TL P N z ops Q l E M := fun a w ha hw => h a w (ha.sub hE) hw

theorem TL.nil {ops : Array Oper} (h : AtX N z Q .normal E M) : TL P N z ops Q [] E M := fun a w ha hw => wpList_nil (h a w ha hw)

/-- The ways through x meet again behind it, in one of a family of states. -/
theorem TC.join {ι : Type} {x y : Code} (Ei : ι → Env) (Mi : ι → Hp) (I : ι → Prop)
    (hx : TC P N z (Exit.then (fun a w => ∃ i, I i ∧ Has N (Ei i) a ∧ Own z w (Mi i)) Q) x E M) (hy : ∀ i, I i → TC P N z Q y (Ei i) (Mi i)) : TC P N z Q (.seq x y) E M :=
  TC.seq fun a w ha hw => wp_mono (hx a w ha hw) fun e a w h => by
    cases e with
    | normal => obtain ⟨i, hi, h1, h2⟩ := h; exact hy i hi a w h1 h2
    | _ => exact h

theorem AtX.join {ι : Type} {Ei : ι → Env} {Mi : ι → Hp} {I : ι → Prop} (i : ι) (hi : I i) (hE : Sub (Ei i) E) (hM : ∀ w, Own z w M → Own z w (Mi i)) :
    AtX N z (Exit.then (fun a w => ∃ i, I i ∧ Has N (Ei i) a ∧ Own z w (Mi i)) Q) .normal E M := fun a w ha hw => ⟨i, hi, ha.sub hE, hM w hw⟩

/-- A loop: a family of states at its head, each round lowers a measure. -/
theorem TC.loop {ι : Type} {c : Code} (Ei : ι → Env) (Mi : ι → Hp) (I : ι → Prop) (μ : ι → Nat) (i0 : ι) (h0 : I i0) (hE : Sub (Ei i0) E) (hM : ∀ w, Own z w M → Own z w (Mi i0))
    (round : ∀ i, I i → TC P N z (Exit.then (fun a w => ∃ j, I j ∧ μ j < μ i ∧ Has N (Ei j) a ∧ Own z w (Mi j)) Q) c (Ei i) (Mi i)) : TC P N z Q (.loop c) E M := by
  intro a w ha hw b k cs
  have key : ∀ n i, μ i = n → I i → ∀ a w, Has N (Ei i) a → Own z w (Mi i) →
      ∃ e a' w', Q e a' w' ∧ Arrives P (lone (b.at a (.code c :: .inLoop c :: k)) cs w) b k cs e a' w' := by
    intro n
    induction n using Nat.strongRecOn with
    | _ n ih =>
      intro i hn hI a w ha hw
      obtain ⟨e, a₁, w₁, hq, harr⟩ := round i hI a w ha hw b (.inLoop c :: k) cs
      cases e with
      | normal =>
        obtain ⟨j, hj, hlt, ha1, hw1⟩ := hq
        obtain ⟨e₂, a₂, w₂, hq₂, harr₂⟩ := ih (μ j) (hn ▸ hlt) j rfl hj a₁ w₁ ha1 hw1
        exact ⟨e₂, a₂, w₂, hq₂, .of_steps (Steps.trans harr (.one step_inLoop)) harr₂⟩
      | exit id => exact ⟨_, a₁, w₁, hq, .pass (x := .inLoop c) rfl (fun _ _ => .inl (by simp)) harr⟩
      | goto l => exact ⟨_, a₁, w₁, hq, .pass (x := .inLoop c) rfl (fun _ _ => .inl (by simp)) harr⟩
      | ret => exact ⟨_, a₁, w₁, hq, .pass (x := .inLoop c) rfl (fun _ _ => .inl (by simp)) harr⟩
      | panic ch => exact ⟨_, a₁, w₁, hq, .pass (x := .inLoop c) rfl (fun _ _ => .inl (by simp)) harr⟩
      | outgrown => exact ⟨_, a₁, w₁, hq, .pass (x := .inLoop c) rfl (fun _ _ => .inl (by simp)) harr⟩
  obtain ⟨e, a', w', hq, harr⟩ := key _ i0 rfl h0 a w (ha.sub hE) (hM w hw)
  exact ⟨e, a', w', hq, .of_steps (.one step_loop) harr⟩

theorem AtX.round {ι : Type} {Ei : ι → Env} {Mi : ι → Hp} {I : ι → Prop} {μ : ι → Nat} {i : ι} (j : ι) (hj : I j) (hlt : μ j < μ i) (hE : Sub (Ei j) E) (hM : ∀ w, Own z w M → Own z w (Mi j)) :
    AtX N z (Exit.then (fun a w => ∃ j, I j ∧ μ j < μ i ∧ Has N (Ei j) a ∧ Own z w (Mi j)) Q) .normal E M := fun a w ha hw => ⟨j, hj, hlt, ha.sub hE, hM w hw⟩
end
end Go.X
