/- The engine: slices of one's own (nil among them), bytes, strings. -/
import Derived.Test.YtphoapajlcaoeaaE6
set_option linter.unusedVariables false
set_option linter.unusedSimpArgs false
namespace Go.X
open Go Go.RowKit

/-- a slice of one's own: nil, or a block, its capacity, what is spare -/
abbrev Sl := Option (Nat × Nat × List Value)
def slA : Sl → Option Addr | none => none | some (b, _, _) => some ⟨b, 0, none⟩
def slC : Sl → Nat | none => 0 | some (_, c, _) => c
def slH (s : Sl) (e : TypeId) (xs : List Value) : Hp := match s with | none => [] | some (b, _, sp) => [(b, row e (xs ++ sp))]
def slOk (s : Sl) (sz n : Nat) (xs : List Value) : Prop := xs.length = n * sz ∧ match s with | none => n = 0 ∧ xs = [] | some (_, c, sp) => xs.length + sp.length = c * sz
/-- its value -/
def slV (s : Sl) (n : Nat) : Value := .slice (slA s) n (slC s)

theorem slOk.len {s : Sl} {sz n : Nat} {xs : List Value} (h : slOk s sz n xs) : xs.length = n * sz := h.1
theorem slOk_nil (sz : Nat) : slOk none sz 0 [] := ⟨by simp, rfl, rfl⟩
theorem slOk.some {s : Sl} {sz n : Nat} {xs : List Value} (h : slOk s sz n xs) (hn : 0 < n) : ∃ b c sp, s = some (b, c, sp) ∧ xs.length + sp.length = c * sz := by
  obtain ⟨_, h2⟩ := h
  cases s with
  | none => simp at h2; omega
  | some x => obtain ⟨b, c, sp⟩ := x; exact ⟨b, c, sp, rfl, h2⟩

theorem slRd {s : Sl} {sz n : Nat} {xs : List Value} {e : TypeId} (h : slOk s sz n xs) {M : Hp} (hm : ∀ x, x ∈ slH s e xs → x ∈ M) : RdS M (slA s) xs := by
  cases s with
  | none => obtain ⟨_, h2⟩ := h; simp at h2; exact .inl h2.2
  | some x =>
    obtain ⟨b, c, sp⟩ := x
    exact .inr ⟨_, rfl, Rd.mem (T := e) (l := xs ++ sp) (hm _ (by simp [slH])) (by simp)⟩

/-- a block's own literal row as such a slice -/
theorem slH_lit (b c : Nat) (e : TypeId) (xs : List Value) (M : Hp) : (b, Obj.cells xs.toArray e (0, 0)) :: M = slH (some (b, c, [])) e xs ++ M := by simp [slH, row]

section
variable {P : Program} {N : Nat} {z : World} {Q : Exit → Act → World → Prop} {E : Env} {M H : Hp} {ops : Array Oper} {rest : List Oper} {o : Oper} {R : Value → Hp → Prop}
variable {dst : Option Tmp} {ty : TypeId} {pos : String} {af : Array Edge} {gu : Option (Nat × Bool)} {t yt : TypeId} {x y : Operand}

theorem Src.mono {M' : Hp} {sz : Nat} {zv : Value} {xt : TypeId} {v : Value} {m : Nat} {ys : List Value} (h : Src P M sz zv xt v m ys) (hm : ∀ x, x ∈ M → x ∈ M') : Src P M' sz zv xt v m ys := by
  rcases h with ⟨a, c, h1, h2, h3⟩ | h | h
  · exact .inl ⟨a, c, h1, h2, h3.mono hm⟩
  · exact .inr (.inl h)
  · exact .inr (.inr h)

/-- append to a slice of one's own, nil or not; H: the heap as it stands, of which one's own slice and M are kept. -/
theorem Does.appendS {s : Operand} {xt e sz by_ m n : Nat} {zv v : Value} {xs ys : List Value} (σ : Sl) (M : Hp) (hH : ∀ w, Own z w H → Own z w (slH σ e xs ++ M))
    (hs : ev E s = some (.slice (slA σ) n (slC σ))) (hx : ev E x = some v)
    (ht : slQ P t = some e) (hsz : sizQ P e = some sz) (hby : bytQ P e = some by_) (hz : zerQ P e = some zv) (hzs : zv.cells.size = sz)
    (hok : slOk σ sz n xs) (hsrc : Src P H sz zv xt v m ys) (hyl : ys.length = m * sz) (h1 : ∀ u ∈ ys, one u = true)
    (hb : (n + m) * by_ ≤ 140737488355328) (hm : n + m ≤ 9223372036854775807) :
    Does P N z E H ⟨dst, .call ⟨.builtin .append, #[s, x], #[t, xt]⟩, ty, pos, af, gu⟩
      (fun u M' => ∃ σ', u = .slice (slA σ') (n + m) (slC σ') ∧ slOk σ' sz (n + m) (xs ++ ys) ∧ M' = slH σ' e (xs ++ ys) ++ M) := fun a w K Q ha hw k => by
  have hunf : ∀ (u : Value) (r : Result Value), ev E s = some u → (Builtin.append_ #[t, xt] ty #[u, v]).run P w = r →
      (execOp a.eval ⟨dst, .call ⟨.builtin .append, #[s, x], #[t, xt]⟩, ty, pos, af, gu⟩).run P w = r.andThen fun v w => .ok (.value v) w := fun u r hu hr => by
    simp [execOp, resolve, invoke, builtin, ha.ev hu, ha.ev hx, hr]
  have hw2 := hH w hw
  have hlen : (xs ++ ys).length = (n + m) * sz := by rw [List.length_append, hok.1, hyl, Nat.add_mul]
  have grown : ∀ (c : Nat), c < n + m → RdS (slH σ e xs ++ M) (slA σ) xs → (Builtin.append_ #[t, xt] ty #[.slice (slA σ) n c, v]).run P w = (Builtin.append_ #[t, xt] ty #[.slice (slA σ) n (slC σ), v]).run P w →
      (Oper.wp P ⟨dst, .call ⟨.builtin .append, #[s, x], #[t, xt]⟩, ty, pos, af, gu⟩ a w K Q) := fun c hc hrd heq => by
    have hrun := run_grow (ty := ty) (n := n) (c := c) ht hsz hby hz hzs hsrc hyl hok.1 hrd hb hm hc hw hw2
    simp only [Oper.wp, hunf _ _ hs (heq.symm.trans hrun), Result.andThen, Oper.upon]
    have hrow : row e (xs ++ ys ++ (Builtin.zeroCells zv.cells (grownCap w (n + m) c e - (n + m))).toList) = .cells (xs.toArray ++ ys.toArray ++ Builtin.zeroCells zv.cells (grownCap w (n + m) c e - (n + m))) e := by
      simp only [row]
      congr 1
      apply Array.ext'
      simp
    refine k _ _ _ ⟨some (w.heap.size, grownCap w (n + m) c e, (Builtin.zeroCells zv.cells (grownCap w (n + m) c e - (n + m))).toList), rfl, ⟨hlen, ?_⟩, rfl⟩ ?_
    · have := grownCap_ge w (n + m) c e
      simp only [hlen, Array.length_toList, size_zeroCells, hzs, ← Nat.add_mul]
      congr 1; omega
    · have h := hw2.drew.alloc (.cells (xs.toArray ++ ys.toArray ++ Builtin.zeroCells zv.cells (grownCap w (n + m) c e - (n + m))) e)
      simp only [slH, List.singleton_append, hrow]
      exact h.sublist ((List.sublist_append_right _ _).cons_cons _)
  cases σ with
  | none =>
    obtain ⟨hn0, hx0⟩ := hok.2
    subst hn0; subst hx0
    by_cases hm0 : m = 0
    · subst hm0
      have hy0 : ys = [] := List.eq_nil_of_length_eq_zero (by simpa using hyl)
      subst hy0
      have hrun : (Builtin.append_ #[t, xt] ty #[.slice none 0 0, v]).run P w = .ok (.slice none 0 0) w := by
        obtain ⟨i, hi, his⟩ : ∃ i, P.info? e = some i ∧ i.size = sz := by simpa [sizQ] using hsz
        rcases hsrc with ⟨a', c', rfl, ⟨d, hd⟩, hrd⟩ | ⟨q, rfl, hd, hq, _⟩ | ⟨k', rfl, ⟨k'', hd⟩, hmi, _⟩
        · have hyd' : (Builtin.firstCells sz 0 (.slice a' 0 c')).run P w = .ok #[] w := run_firstCells hrd hw (by simp)
          simp [Builtin.append_, run_underlying (slQ_spec ht), run_underlying hd, run_sizeOf hsz, Builtin.lenOf, Result.andThen, hyd']
        · simp [Builtin.append_, run_underlying (slQ_spec ht), run_underlying hd, run_sizeOf hsz, Builtin.lenOf, Builtin.firstCells, Result.andThen, ← hq]
        · have hmw : IntKind.i64.wrap (0 : Int) = 0 := w_i64 (by omega) (by omega)
          simp [Builtin.append_, run_underlying (slQ_spec ht), run_underlying hd, run_sizeOf hsz, asInt, asIntOf, hmw, Result.andThen, typeInfo, hi]
      simp only [Oper.wp, hunf _ _ hs hrun, Result.andThen, Oper.upon]
      exact k _ _ w ⟨none, rfl, ⟨by simp, rfl, rfl⟩, rfl⟩ hw2
    · exact grown 0 (by omega) (.inl rfl) rfl
  | some q =>
    obtain ⟨b, c, sp⟩ := q
    have hcl : xs.length + sp.length = c * sz := hok.2
    have hgb : w.heap[b]? = some (row e (xs ++ sp)) := hw2.mem b _ (by simp [slH])
    have hxl := hok.1
    by_cases hr : n + m ≤ c
    · have hmul : (n + m) * sz ≤ c * sz := Nat.mul_le_mul_right _ hr
      rw [Nat.add_mul] at hmul
      obtain ⟨w', hrun, e1, e2, e3, hb', hk⟩ := run_room (ty := ty) ht hsz hby hz hzs hsrc hyl h1 hb hr (cs := (xs ++ sp).toArray) (by simp; omega) hw hgb
      simp only [Oper.wp, hunf _ _ hs hrun, Result.andThen, Oper.upon]
      refine k _ _ w' ⟨some (b, c, sp.drop ys.length), rfl, ⟨hlen, by simp; omega⟩, rfl⟩ ?_
      refine hw2.setFront (b := b) e1 e2 e3 ?_ hk
      rw [hb']
      show some (Obj.cells _ e (0, 0)) = some (Obj.cells _ e (0, 0))
      congr 2
      apply Array.ext'
      rw [splice_list _ _ _ (by simp; omega)]
      simp [← hxl, List.append_assoc]
    · have hrd := slRd hok (M := slH (some (b, c, sp)) e xs ++ M) (fun x hx => List.mem_append_left _ hx)
      exact grown c (by omega) hrd rfl

/-! bytes -/
def bv (l : List UInt8) : List Value := l.map fun c => .int .u8 c.toNat
@[simp] theorem bv_len (l : List UInt8) : (bv l).length = l.length := by simp [bv]
@[simp] theorem bv_nil : bv [] = [] := rfl
theorem bv_append (l m : List UInt8) : bv (l ++ m) = bv l ++ bv m := by simp [bv]
theorem bv_take (l : List UInt8) (n : Nat) : bv (l.take n) = (bv l).take n := by simp [bv, List.map_take]
theorem bv_drop (l : List UInt8) (n : Nat) : bv (l.drop n) = (bv l).drop n := by simp [bv, List.map_drop]
theorem bv_one (l : List UInt8) : ∀ u ∈ bv l, one u = true := by
  intro u hu; obtain ⟨c, _, rfl⟩ := List.mem_map.1 hu; rfl
theorem bv_get {l : List UInt8} {j : Nat} (h : j < l.length) : (bv l)[j]? = some (.int .u8 (l.getD j 0).toNat) := by
  simp [bv, List.getElem?_eq_getElem h, List.getD_eq_getElem?_getD]
theorem bv_inj {l m : List UInt8} (h : bv l = bv m) : l = m := by
  induction l generalizing m with
  | nil => cases m with
    | nil => rfl
    | cons c m => simp [bv] at h
  | cons a l ih => cases m with
    | nil => simp [bv] at h
    | cons c m =>
      simp only [bv, List.map_cons, List.cons.injEq, Value.int.injEq, true_and] at h
      obtain ⟨h1, h2⟩ := h
      rw [ih h2]
      congr 1
      exact UInt8.toNat_inj.1 (by omega)

def b8 (x : Int) : UInt8 := UInt8.ofNat (x % 256).toNat
theorem b8_toNat (x : Int) : ((b8 x).toNat : Int) = x % 256 := by
  simp only [b8, UInt8.toNat_ofNat']
  omega
theorem w_b8 {e : Int} : IntKind.u8.wrap e = ((b8 e).toNat : Int) := by rw [w_u8m, b8_toNat]

/-- a string of bytes -/
def ofL (l : List UInt8) : ByteArray := ⟨l.toArray⟩
@[simp] theorem ofL_toList (l : List UInt8) : (ofL l).data.toList = l := by simp [ofL]
@[simp] theorem ofL_size (l : List UInt8) : (ofL l).size = l.length := by simp [ofL, ByteArray.size]
theorem ba_ofL (s : ByteArray) : ofL s.data.toList = s := by simp [ofL]
theorem toList_eq (s : ByteArray) : s.toList = s.data.toList := ByteArray.toList_eq s
theorem str_beq (s t : ByteArray) : (s.toList == t.toList) = decide (s.data.toList = t.data.toList) := by
  rw [toList_eq, toList_eq]; exact Bool.beq_eq_decide_eq _ _

theorem RdS.get {a : Option Addr} {ys : List Value} (h : RdS M a ys) (hn : 0 < ys.length) : ∃ b o : Nat, a = Option.some (⟨b, o, Option.none⟩ : Addr) ∧ Rd M ⟨b, o, Option.none⟩ ys := by
  rcases h with rfl | ⟨⟨b, o, s⟩, rfl, hr⟩
  · simp at hn
  · obtain ⟨cs, T, fz, h1, h2, h3⟩ := hr
    simp at h2; subst h2
    exact ⟨b, o, rfl, ⟨cs, T, fz, h1, rfl, h3⟩⟩

theorem Rd.at {b o : Nat} {ys : List Value} (h : Rd M ⟨b, o, none⟩ ys) {w : World} (hw : Own z w M) {j : Nat} {v : Value} (hj : ys[j]? = some v) : w.cell? ⟨b, o + j, none⟩ = some v := by
  have := h.cells hw j v hj
  rwa [addr_add] at this

theorem Val.loadRd {b o r j : Nat} {ys : List Value} {v : Value} (hx : ev E x = some (.pointer (some ⟨b, r, none⟩))) (ht : aggQ P t = some false) (hR : Rd M ⟨b, o, none⟩ ys) (hr : r = o + j) (hj : ys[j]? = some v) :
    Val P N z E M ⟨dst, .load t x, ty, pos, af, gu⟩ v := fun a w ha hw => by
  subst hr
  have hc := hR.at hw hj
  simp [execOp, ha.ev hx, Instr.loadAt, Instr.sureAddr, loadVar, run_isAgg ht, Result.andThen, hc]

theorem Val.loadB {b o r : Nat} {l : List UInt8} (j : Nat) (hx : ev E x = some (.pointer (some ⟨b, r, none⟩))) (ht : aggQ P t = some false) (hR : Rd M ⟨b, o, none⟩ (bv l)) (hr : r = o + j) (hj : j < l.length) :
    Val P N z E M ⟨dst, .load t x, ty, pos, af, gu⟩ (.int .u8 (l.getD j 0).toNat) := Val.loadRd hx ht hR hr (bv_get hj)

/-- string(b) -/
theorem Val.b2s {src d e : TypeId} {a : Option Addr} {n c : Nat} {l : List UInt8} (hx : ev E x = some (.slice a n c)) (hs : P.underlying src = some (.slice e)) (he : P.underlying e = some (.int .u8)) (hd : P.underlying d = some .string)
    (hn : n = l.length) (hR : RdS M a (bv l)) : Val P N z E M ⟨dst, .convert src d x, ty, pos, af, gu⟩ (.string (ofL l)) := fun ac w ha hw => by
  subst hn
  have key : (convert src d (.slice a l.length c)).run P w = .ok (.string (ofL l)) w := by
    cases a with
    | none =>
      rcases hR with h | ⟨p, hp, _⟩
      · have : l = [] := by cases l <;> simp [bv] at h ⊢
        subst this
        exact run_convert_bytes_nil w src e hs he _ _ d hd
      · cases hp
    | some p =>
      have hc : ∀ j (hj : j < l.length), w.cell? (p.add j) = some (.int .u8 (l[j].toNat : Int)) := fun j hj => by
        rcases hR with h | ⟨q, hq, hr⟩
        · have : l = [] := by cases l <;> simp [bv] at h ⊢
          subst this; simp at hj
        · cases hq
          exact hr.cells hw j _ (by simp [bv, List.getElem?_eq_getElem hj])
      exact run_convert_bytes_back w src d e p c l hs he hd hc
  simp [execOp, ha.ev hx, key]

theorem Does.buildSlice0 {e sz : Nat} (ht : slQ P t = some e) (hsz : sizQ P e = some sz) :
    Does P N z E M ⟨dst, .buildSlice t 0 #[], ty, pos, af, gu⟩ (fun u M' => ∃ b, u = .slice (some ⟨b, 0, none⟩) 0 0 ∧ M' = (b, .cells #[] e (0, 0)) :: M) :=
  does_alloc (u := fun b => .slice (some ⟨b, 0, none⟩) 0 0) fun a w ha hw => by
    simp [execOp, Instr.buildSlice, run_underlying (slQ_spec ht), run_sizeOf hsz, Result.andThen, Instr.fill, newRow]
    congr 2
    simp [Array.range]

theorem Does.makeSlice {e sz by_ n c : Nat} {k k' : IntKind} {nl nc : Int} {zv : Value} (hx : ev E x = some (.int k nl)) (hy : ev E y = some (.int k' nc)) (ht : slQ P t = some e) (hsz : sizQ P e = some sz) (hby : bytQ P e = some by_) (hz : zerQ P e = some zv)
    (hzs : zv.cells.size = sz) (hl : nl = (n : Int)) (hc : nc = (c : Int)) (hnc : n ≤ c) (hb : by_ * c ≤ 281474976710656) (h63 : c ≤ 9223372036854775807) :
    Does P N z E M ⟨dst, .makeSlice t x y, ty, pos, af, gu⟩ (fun u M' => ∃ b, u = .slice (some ⟨b, 0, none⟩) n c ∧ M' = (b, row e (zrep zv.cells.toList c)) :: M) :=
  does_alloc (u := fun b => .slice (some ⟨b, 0, none⟩) n c) fun a w ha hw => by
    subst hl; subst hc
    have hzf : madeCells zv.cells (c * sz) = (zrep zv.cells.toList c).toArray := by rw [← zfill_eq, hzs]; rfl
    obtain ⟨i, hi, his⟩ : ∃ i, P.info? e = some i ∧ i.size = sz := by simpa [sizQ] using hsz
    have hib : i.bytes = by_ := by simpa [bytQ, hi] using hby
    have hiz : i.zero = some zv := by simpa [zerQ, hi] using hz
    have h := run_make (P := P) w t e i zv (slQ_spec ht) hi hiz k k' n c (by omega) (by omega) (by rw [hib]; omega) (by omega)
    simp only [execOp, ha.ev hx, ha.ev hy, Sem.run_bind, h, Result.andThen, Sem.run_pure, his, Int.toNat_natCast, hzf]

theorem Val.makeFunc {f : Go.Fn} {first cap : List Operand} {vf vc : List Value} (h1 : evs E first = some vf) (h2 : evs E cap = some vc) : Val P N z E M ⟨dst, .makeFunc f first.toArray cap.toArray, ty, pos, af, gu⟩ (.func f vf.toArray vc.toArray) := fun a w ha hw => by
  have e1 := evs_eval ha _ _ h1
  have e2 := evs_eval ha _ _ h2
  simp [execOp, Instr.makeFunc, e1, e2]

/-- s[lo:hi] of a string -/
theorem Val.sliceStr {s : ByteArray} {i j : Nat} {lo hi : Option Operand} {il ih : Int} (hx : ev E x = some (.string s)) (ht : P.underlying t = some .string)
    (hlo : bnd E 0 lo = some il) (hhi : bnd E s.size hi = some ih) (hil : il = (i : Int)) (hih : ih = (j : Int)) (hij : i ≤ j) (hj : j ≤ s.size) :
    Val P N z E M ⟨dst, .slice t x lo hi none, ty, pos, af, gu⟩ (.string (s.extract i j)) := fun a w ha hw => by
  have h3 : (Instr.sliceBounds false s.size s.size (lo.map a.eval) (hi.map a.eval) none).run P w = .ok (i, j, s.size) w := by
    cases hi with
    | none =>
      have hj : s.size = j := by simp [bnd] at hhi; omega
      subst hj
      cases lo with
      | none =>
        have hi0 : i = 0 := by simp [bnd] at hlo; omega
        subst hi0
        rfl
      | some v =>
        have h1 := run_bound (P := P) ha (d := 0) hlo (w := w) (cap := s.size) hil hij .sliceB
        simp only [Instr.sliceBounds, Option.map_some, Option.map_none, Sem.run_bind, Sem.run_pure, Result.andThen, Option.isSome_none, Bool.false_eq_true, if_false, h1]
    | some u =>
      have h2 := run_bound (P := P) ha (d := s.size) hhi (w := w) (cap := s.size) hih hj .sliceAlen
      cases lo with
      | none =>
        have hi0 : i = 0 := by simp [bnd] at hlo; omega
        subst hi0
        simp only [Instr.sliceBounds, Option.map_some, Option.map_none, Sem.run_bind, Sem.run_pure, Result.andThen, Bool.false_eq_true, if_false, h2]
      | some v =>
        have h1 := run_bound (P := P) ha (d := 0) hlo (w := w) (cap := j) hil hij .sliceB
        simp only [Instr.sliceBounds, Option.map_some, Option.map_none, Sem.run_bind, Sem.run_pure, Result.andThen, Option.isSome_none, Bool.false_eq_true, if_false, h2, h1]
  simp only [execOp, ha.ev hx, Instr.sliceAt, Instr.slice, Sem.run_bind, run_underlying ht, Result.andThen, Option.map_none, Option.isSome_none, Bool.false_eq_true, if_false, h3, Sem.run_pure]

/-- the string's bytes in a row of its own (the row bears the run-time's mark behind its end) -/
def rowS (T : TypeId) (l : List Value) : Obj := .cells l.toArray T (l.length, l.length + 1)

theorem Does.s2b {src d e : TypeId} {s : ByteArray} (hx : ev E x = some (.string s)) (hs : P.underlying src = some .string) (hd : P.underlying d = some (.slice e)) (he : P.underlying e = some (.int .u8)) :
    Does P N z E M ⟨dst, .convert src d x, ty, pos, af, gu⟩ (fun u M' => ∃ b c sp, u = .slice (some ⟨b, 0, none⟩) s.size c ∧ s.size + sp.length = c ∧ M' = (b, rowS e (bv s.data.toList ++ sp)) :: M) := fun a w K Q ha hw k => by
  have h := run_bytes_of_string w src d e s hs hd he
  have hex : (execOp a.eval ⟨dst, .convert src d x, ty, pos, af, gu⟩).run P w = .ok (.value (.slice (some ⟨w.heap.size, 0, none⟩) s.size (grownCap w s.size 0 e))) (w.drew.alloc (.cells (bytesRow s (grownCap w s.size 0 e)) e ((bytesRow s (grownCap w s.size 0 e)).size, (bytesRow s (grownCap w s.size 0 e)).size + 1))) := by
    simp [execOp, ha.ev hx, h]
  simp only [Oper.wp, hex, Oper.upon]
  have hge := grownCap_ge w s.size 0 e
  have hrow : rowS e (bv s.data.toList ++ List.replicate (grownCap w s.size 0 e - s.size) (Value.int .u8 0)) = .cells (bytesRow s (grownCap w s.size 0 e)) e ((bytesRow s (grownCap w s.size 0 e)).size, (bytesRow s (grownCap w s.size 0 e)).size + 1) := by
    have : (bytesRow s (grownCap w s.size 0 e)) = (bv s.data.toList ++ List.replicate (grownCap w s.size 0 e - s.size) (Value.int .u8 0)).toArray := by
      apply Array.ext'; simp [bytesRow, bv]
    rw [this]; simp [rowS]
  refine k _ _ _ ⟨w.heap.size, _, List.replicate (grownCap w s.size 0 e - s.size) (Value.int .u8 0), rfl, by simp; omega, rfl⟩ ?_
  rw [hrow]
  exact hw.drew.alloc _

end
end Go.X
namespace Go.X
open Go Go.RowKit
section
variable {z : World} {M M' : Hp}
theorem ro_app {L : Hp} (h : ∀ w, Own z w M → Own z w M') : ∀ w, Own z w (L ++ M) → Own z w M' := fun w hw => h w (hw.sublist (List.sublist_append_right _ _))
theorem ro_cons {x : Nat × Obj} (h : ∀ w, Own z w M → Own z w M') : True := trivial
theorem own_split {w : World} {b c : Nat} {e : TypeId} {l : List UInt8} {sp : List Value} (n : Nat) (h : Own z w ((b, row e (bv l ++ sp)) :: M)) : Own z w (slH (some (b, c, bv (l.drop n) ++ sp)) e (bv (l.take n)) ++ M) := by
  have : bv (l.take n) ++ (bv (l.drop n) ++ sp) = bv l ++ sp := by rw [← List.append_assoc, ← bv_append, List.take_append_drop]
  simpa [slH, this] using h
theorem own_sl {w : World} {b c : Nat} {e : TypeId} {xs sp : List Value} (h : Own z w ((b, row e (xs ++ sp)) :: M)) : Own z w (slH (some (b, c, sp)) e xs ++ M) := h
theorem slOk_split {b c n : Nat} {l : List UInt8} {sp : List Value} (hn : n ≤ l.length) (hc : l.length + sp.length = c) : slOk (some (b, c, bv (l.drop n) ++ sp)) 1 n (bv (l.take n)) := by
  refine ⟨by simp; omega, ?_⟩
  simp; omega
theorem slOk_whole {b c : Nat} {l : List UInt8} {sp : List Value} (hc : l.length + sp.length = c) : slOk (some (b, c, sp)) 1 l.length (bv l) := by
  refine ⟨by simp, ?_⟩
  simp; omega
theorem zrep_bytes (m : Nat) : zrep [Value.int .u8 0] m = bv (List.replicate m 0) := by
  simp only [bv]
  induction m with
  | zero => rfl
  | succ m ih => simp [zrep, List.replicate_succ] at ih ⊢; exact ih
theorem zfill_bytes (m : Nat) : (zfill #[.int .u8 0] (m * 1)).toList = bv (List.replicate m 0) := by
  have := zfill_eq #[Value.int .u8 0] m
  simp only [List.size_toArray, List.length_cons, List.length_nil, Nat.zero_add] at this
  rw [this]
  exact zrep_bytes m
theorem srcZ {P : Program} {xt : TypeId} {m : Nat} (h : P.underlying xt = some (.int .i64)) (hm : (m : Int) ≤ 9223372036854775807) : Src P M 1 (.int .u8 0) xt (.int .i64 (m : Int)) m (bv (List.replicate m 0)) :=
  .inr (.inr ⟨.i64, rfl, ⟨_, h⟩, hm, (zfill_bytes m).symm⟩)
theorem srcB {P : Program} {xt e : TypeId} {a : Option Addr} {m c : Nat} {l : List UInt8} (h : P.underlying xt = some (.slice e)) (hr : RdS M a (bv l)) : Src P M 1 (.int .u8 0) xt (.slice a m c) m (bv l) := .inl ⟨a, c, rfl, ⟨e, h⟩, hr⟩
theorem rd_row {b : Nat} {e : TypeId} {xs sp : List Value} {i : Nat} (hi : M[i]? = some (b, row e (xs ++ sp))) (n : Nat) (hn : n ≤ xs.length) : RdS M (some ⟨b, 0, none⟩) (xs.take n) :=
  .some (Rd.mem (T := e) (l := xs ++ sp) (List.mem_of_getElem? hi) (by
    simp only [List.drop_zero, List.length_take]
    rw [Nat.min_eq_left hn, List.take_append_of_le_length hn]))
theorem rd_rowB {b : Nat} {e : TypeId} {l : List UInt8} {sp : List Value} {i : Nat} (hi : M[i]? = some (b, row e (bv l ++ sp))) (n : Nat) (hn : n ≤ l.length) : RdS M (some ⟨b, 0, none⟩) (bv (l.take n)) := by
  rw [bv_take]; exact rd_row hi n (by simpa using hn)
theorem rd_all {b : Nat} {e : TypeId} {l : List UInt8} {sp : List Value} {i : Nat} (hi : M[i]? = some (b, row e (bv l ++ sp))) : RdS M (some ⟨b, 0, none⟩) (bv l) := by
  have := rd_rowB hi l.length (Nat.le_refl _)
  rwa [List.take_length] at this
end
end Go.X
namespace Go.X
open Go Go.RowKit
section
variable {P : Program} {N : Nat} {z : World} {E : Env} {M : Hp}
variable {dst : Option Tmp} {ty : TypeId} {pos : String} {af : Array Edge} {gu : Option (Nat × Bool)} {t yt : TypeId} {x y : Operand}
/-- x[:j] -/
theorem Val.sliceTo {e : TypeId} {p : Option Addr} {l c j sz : Nat} {hi : Option Operand} {ih : Int} (hx : ev E x = some (.slice p l c)) (ht : slQ P t = some e) (hsz : sizQ P e = some sz)
    (hhi : bnd E l hi = some ih) (hih : ih = (j : Int)) (hjc : j ≤ c) :
    Val P N z E M ⟨dst, .slice t x none hi none, ty, pos, af, gu⟩ (.slice p j c) := by
  have h := Val.slice (P := P) (N := N) (z := z) (M := M) (dst := dst) (ty := ty) (pos := pos) (af := af) (gu := gu) (lo := none) (i := 0) (il := 0) hx ht hsz rfl hhi rfl hih (Nat.zero_le _) hjc rfl
  have e : (if c = 0 then p else p.map (·.add (0 * sz))) = p := by
    cases p with
    | none => simp
    | some q => simp [Addr.add]
  rw [e] at h
  exact h
/-- x[i:j], i below the capacity -/
theorem Val.sliceAt {e : TypeId} {b o l c i j sz r : Nat} {lo hi : Option Operand} {il ih : Int} (hx : ev E x = some (.slice (some ⟨b, o, none⟩) l c)) (ht : slQ P t = some e) (hsz : sizQ P e = some sz)
    (hlo : bnd E 0 lo = some il) (hhi : bnd E l hi = some ih) (hil : il = (i : Int)) (hih : ih = (j : Int)) (hij : i ≤ j) (hjc : j ≤ c) (hic : i < c) (hr : o + i * sz = r) :
    Val P N z E M ⟨dst, .slice t x lo hi none, ty, pos, af, gu⟩ (.slice (some ⟨b, r, none⟩) (j - i) (c - i)) := by
  have h := Val.slice (P := P) (N := N) (z := z) (M := M) (dst := dst) (ty := ty) (pos := pos) (af := af) (gu := gu) hx ht hsz hlo hhi hil hih hij hjc rfl
  rw [if_neg (by omega), Option.map_some, addr_add, hr] at h
  exact h
end
end Go.X
namespace Go.X
open Go Go.RowKit
theorem ro_pre {z : World} {M L : Hp} : ∀ w, Own z w (M ++ L) → Own z w M := fun w hw => hw.sublist (List.sublist_append_left _ _)
theorem ro_rot {z : World} {M L : Hp} : ∀ w, Own z w (L ++ M) → Own z w (M ++ L) := fun w hw => hw.perm List.perm_append_comm
theorem FnC.heapR {P : Program} {f : FuncId} {args : Array Value} {M : Hp} {R R' : Value → Hp → Prop} (h : FnC P f args M R) (hr : ∀ v M', R v M' → ∃ M'', R' v M'' ∧ ∀ z w, Own z w M' → Own z w M'') : FnC P f args M R' :=
  fun z w hw => (h z w hw).mono fun _ _ ⟨v, M', he, hR, ho⟩ => by
    obtain ⟨M'', h1, h2⟩ := hr v M' hR
    exact ⟨v, M'', he, h1, h2 z _ ho⟩
end Go.X
namespace Go.X
open Go
theorem RdS.pre {M : Hp} {a : Option Addr} {ys : List Value} (L : Hp) (h : RdS M a ys) : RdS (M ++ L) a ys := h.mono fun _ hx => List.mem_append_left _ hx
theorem Rd.pre {M : Hp} {a : Addr} {ys : List Value} (L : Hp) (h : Rd M a ys) : Rd (M ++ L) a ys := h.mono fun _ hx => List.mem_append_left _ hx
end Go.X
