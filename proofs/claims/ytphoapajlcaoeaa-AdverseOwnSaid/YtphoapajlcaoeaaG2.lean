/- Texts put together: ES18c, ES7, ES13, E18, E19, ES9, ES10, ES14, ES15. -/
import Derived.Test.YtphoapajlcaoeaaG1
import Derived.Laws.StructEq
/- Plain words for the log: a cell with a byte turned, a torn cell. -/
set_option linter.unusedVariables false
set_option linter.unusedSimpArgs false
namespace Go.X
open Go

theorem xor8 (a b : UInt8) : bitsOf .xor .u8 (a.toNat : Int) (b.toNat : Int) = ((a ^^^ b).toNat : Int) := by
  have ha : a.toNat < 256 := UInt8.toNat_lt _
  have hb : b.toNat < 256 := UInt8.toNat_lt _
  have h : bitsOf .xor .u8 (a.toNat : Int) (b.toNat : Int) = IntKind.u8.wrap (((BitVec.ofInt 8 (a.toNat : Int)) ^^^ (BitVec.ofInt 8 (b.toNat : Int))).toNat : Nat) := rfl
  have hlt : a.toNat ^^^ b.toNat < 2 ^ 8 := Nat.xor_lt_two_pow ha hb
  rw [h, BitVec.ofInt_natCast, BitVec.ofInt_natCast, BitVec.toNat_xor, BitVec.toNat_ofNat, BitVec.toNat_ofNat, Nat.mod_eq_of_lt ha, Nat.mod_eq_of_lt hb, UInt8.toNat_xor]
  exact w_u8 (by omega) (by omega)
theorem xor8_ne {a b : UInt8} (h : b ≠ 0) : a ^^^ b ≠ a := by
  intro e
  apply h
  have : a ^^^ (a ^^^ b) = a ^^^ a := by rw [e]
  rw [← UInt8.xor_assoc, UInt8.xor_self, UInt8.zero_xor] at this
  exact this

theorem pb4_inj {m n : Nat} (hm : m < 4294967296) (hn : n < 4294967296) (h : (put8 (m : Int)).take 4 = (put8 (n : Int)).take 4) : m = n := by
  simp only [put8, pb, List.nil_append, List.cons_append, List.take_succ_cons, List.take_zero, List.cons.injEq, and_true] at h
  obtain ⟨h0, h1, h2, h3⟩ := h
  have e : ∀ k, byteAt (m : Int) k = byteAt (n : Int) k → (((m : Int) / 2 ^ (8 * k)) % 256).toNat = (((n : Int) / 2 ^ (8 * k)) % 256).toNat := fun k hk => by
    rw [← byteAt_nat, ← byteAt_nat, hk]
  have e0 := e 0 h0
  have e1 := e 1 h1
  have e2 := e 2 h2
  have e3 := e 3 h3
  simp only [Nat.reduceMul, Int.reducePow, Int.ediv_one] at e0 e1 e2 e3
  omega

theorem cell_inj {p pl kd p2 pl2 kd2 : Int} {d d2 : List UInt8} (hm : mayC p pl kd d.length = true) (hm2 : mayC p2 pl2 kd2 d2.length = true) :
    cellB p pl kd d = cellB p2 pl2 kd2 d2 ↔ (((p = p2 ∧ pl = pl2) ∧ kd = kd2) ∧ d = d2) := by
  constructor
  · intro h
    refine ⟨⟨⟨?_, ?_⟩, ?_⟩, ?_⟩
    · rw [← cell_pass hm, ← cell_pass hm2, h]
    · rw [← cell_pl hm, ← cell_pl hm2, h]
    · rw [← cell_kd hm, ← cell_kd hm2, h]
    · rw [← cell_d hm, ← cell_d hm2, h]
  · rintro ⟨⟨⟨rfl, rfl⟩, rfl⟩, rfl⟩; rfl

theorem set_append_lt {α : Type} {l m : List α} {k : Nat} {c : α} (h : k < l.length) : (l ++ m).set k c = l.set k c ++ m := by
  rw [List.set_append, if_pos h]
theorem set_append_ge {α : Type} {l m : List α} {k : Nat} {c : α} (h : l.length ≤ k) : (l ++ m).set k c = l ++ m.set (k - l.length) c := by
  rw [List.set_append, if_neg (by omega)]

/-- a valid cell with one byte turned is no cell put again -/
theorem cell_turned {p pl kd : Int} {d : List UInt8} (hm : mayC p pl kd d.length = true) {k : Nat} (hk : k < 64) {c : UInt8} (hc : c ≠ (cellB p pl kd d).getD k 0)
    (h2 : mayL ((cellB p pl kd d).set k c) = true) : againB ((cellB p pl kd d).set k c) ≠ (cellB p pl kd d).set k c := by
  intro h
  obtain ⟨L, hL⟩ : ∃ L, L = (cellB p pl kd d).set k c := ⟨_, rfl⟩
  rw [← hL] at h h2
  have hl : L.length = 64 := by rw [hL, List.length_set, cell_len hm]
  have hm2 : mayC (passOf L : Nat) (plOf L : Nat) (kdOf L : Nat) (dOf L).length = true := by rw [dOf_len hl]; exact h2
  have hlen := bodyB_len p pl kd d (mayC_iff.1 hm).2.2.2.2.2.2
  have hlen2 := bodyB_len (passOf L : Nat) (plOf L : Nat) (kdOf L : Nat) (dOf L) (mayC_iff.1 hm2).2.2.2.2.2.2
  have hne : (cellB p pl kd d).set k c ≠ cellB p pl kd d := fun e => by
    apply hc
    have e1 : ((cellB p pl kd d).set k c).getD k 0 = c := by simp [List.getD_eq_getElem?_getD, cell_len hm, hk]
    rw [← e1, e]
  unfold againB at h
  have hcell : cellB (passOf L : Nat) (plOf L : Nat) (kdOf L : Nat) (dOf L) = (cellB p pl kd d).set k c := by rw [h, hL]
  by_cases h56 : k < 56
  · have e : (cellB p pl kd d).set k c = (bodyB p pl kd d).set k c ++ ((put8 (sum18 (bodyB p pl kd d) : Nat)).take 4 ++ (List.replicate 3 0 ++ [markB p])) := by
      rw [cellB, List.append_assoc, List.append_assoc, set_append_lt (by omega)]
    rw [e, cellB, List.append_assoc, List.append_assoc] at hcell
    obtain ⟨hb, hr⟩ := List.append_inj hcell (by rw [List.length_set, hlen, hlen2])
    obtain ⟨hs, _⟩ := List.append_inj hr (by simp)
    have b1 := sumTo_bd (bodyB p pl kd d) (bodyB p pl kd d).length (by omega)
    have b2 := sumTo_bd (bodyB (passOf L : Nat) (plOf L : Nat) (kdOf L : Nat) (dOf L)) (bodyB (passOf L : Nat) (plOf L : Nat) (kdOf L : Nat) (dOf L)).length (by omega)
    have hs2 := pb4_inj (by unfold sum18; omega) (by unfold sum18; omega) hs
    rw [hb] at hs2
    have := (sum_set (bodyB p pl kd d) k c (by omega)).1 hs2
    apply hc
    rw [this, cellB, List.append_assoc, List.append_assoc]
    simp only [List.getD_eq_getElem?_getD]
    rw [List.getElem?_append_left (by omega)]
  · have e : (cellB p pl kd d).set k c = bodyB p pl kd d ++ ((put8 (sum18 (bodyB p pl kd d) : Nat)).take 4 ++ (List.replicate 3 0 ++ [markB p])).set (k - (bodyB p pl kd d).length) c := by
      rw [cellB, List.append_assoc, List.append_assoc, set_append_ge (by omega)]
    have hcell2 := hcell
    rw [e, cellB, List.append_assoc, List.append_assoc] at hcell2
    obtain ⟨hb, _⟩ := List.append_inj hcell2 (by rw [hlen, hlen2])
    have hp : ((passOf L : Nat) : Int) = p := by
      have : ∀ {q ql qk : Int} {e : List UInt8}, mayC q ql qk e.length = true → (passOf (bodyB q ql qk e) : Int) = q := fun {q ql qk e} hq => by
        have h1 := cell_pass hq
        have h3 : passOf (cellB q ql qk e) = passOf (bodyB q ql qk e) := by
          have hl := bodyB_len q ql qk e (mayC_iff.1 hq).2.2.2.2.2.2
          have : ∀ j, j < 8 → (cellB q ql qk e).getD j 0 = (bodyB q ql qk e).getD j 0 := fun j hj => by
            rw [cellB, List.append_assoc, List.append_assoc]
            simp only [List.getD_eq_getElem?_getD]
            rw [List.getElem?_append_left (by omega)]
          simp only [passOf, get8, getTo, Nat.zero_add]
          rw [this 0 (by omega), this 1 (by omega), this 2 (by omega), this 3 (by omega), this 4 (by omega), this 5 (by omega), this 6 (by omega), this 7 (by omega)]
        rw [← h3]; exact h1
      rw [← this hm, ← this hm2, hb]
    apply hne
    rw [← hcell, cellB, hb, hp]
    rfl

/-- a part of the first byte on, then another one's -/
theorem torn_pass {p pl kd : Int} {d : List UInt8} (hm : mayC p pl kd d.length = true) {l : List UInt8} {k : Nat} (hk : 1 ≤ k) (hk2 : k < 64) (hl : l.length = 64) (h0 : l.getD 1 0 = 0 ∧ l.getD 2 0 = 0 ∧ l.getD 3 0 = 0) :
    (passOf ((cellB p pl kd d).take k ++ l.drop k) : Int) = p ∧ ((cellB p pl kd d).take k ++ l.drop k).getD 63 0 = l.getD 63 0 := by
  have hc := cell_len hm
  have hg : ∀ j, j < 64 → ((cellB p pl kd d).take k ++ l.drop k).getD j 0 = if j < k then (cellB p pl kd d).getD j 0 else l.getD j 0 := fun j hj => by
    simp only [List.getD_eq_getElem?_getD]
    by_cases h : j < k
    · rw [if_pos h, List.getElem?_append_left (by simp; omega), List.getElem?_take_of_lt h]
    · rw [if_neg h, List.getElem?_append_right (by simp; omega), List.getElem?_drop, List.length_take, Nat.min_eq_left (by omega)]
      congr 2; omega
  refine ⟨?_, ?_⟩
  · obtain ⟨h1, h2, _⟩ := mayC_iff.1 hm
    have hb := fun k => byteAt_nat p k
    have e0 := hb 0
    have e1 := hb 1
    have e2 := hb 2
    have e3 := hb 3
    have c0 : (cellB p pl kd d).getD 0 0 = byteAt p 0 := by rw [cell_head]; rfl
    have c1 : (cellB p pl kd d).getD 1 0 = byteAt p 1 := by rw [cell_head]; rfl
    have c2 : (cellB p pl kd d).getD 2 0 = byteAt p 2 := by rw [cell_head]; rfl
    have c3 : (cellB p pl kd d).getD 3 0 = byteAt p 3 := by rw [cell_head]; rfl
    have hz : (0 : UInt8).toNat = 0 := rfl
    simp only [Nat.reduceMul, Int.reducePow, Nat.reducePow, Int.ediv_one, Nat.mul_one] at e0 e1 e2 e3
    have g0 : (((cellB p pl kd d).take k ++ l.drop k).getD 0 0).toNat = p.toNat := by rw [hg 0 (by omega), if_pos (by omega), c0]; omega
    have g1 : (((cellB p pl kd d).take k ++ l.drop k).getD 1 0).toNat = 0 := by rw [hg 1 (by omega)]; split; rw [c1]; omega; rw [h0.1]; rfl
    have g2 : (((cellB p pl kd d).take k ++ l.drop k).getD 2 0).toNat = 0 := by rw [hg 2 (by omega)]; split; rw [c2]; omega; rw [h0.2.1]; rfl
    have g3 : (((cellB p pl kd d).take k ++ l.drop k).getD 3 0).toNat = 0 := by rw [hg 3 (by omega)]; split; rw [c3]; omega; rw [h0.2.2]; rfl
    simp only [passOf, get8, getTo, Nat.zero_add, g0, g1, g2, g3]
    simp only [Nat.reduceMul, Int.reducePow, Nat.reducePow, Int.ediv_one, Nat.mul_one]
    omega
  · rw [hg 63 (by omega), if_neg (by omega)]
theorem cell_top {p pl kd : Int} {d : List UInt8} (hm : mayC p pl kd d.length = true) : (cellB p pl kd d).getD 1 0 = 0 ∧ (cellB p pl kd d).getD 2 0 = 0 ∧ (cellB p pl kd d).getD 3 0 = 0 := by
  obtain ⟨h1, h2, _⟩ := mayC_iff.1 hm
  have e1 := byteAt_nat p 1
  have e2 := byteAt_nat p 2
  have e3 := byteAt_nat p 3
  simp only [Nat.reduceMul, Int.reducePow] at e1 e2 e3
  rw [cell_head]
  simp only [List.getD_cons_succ, List.getD_cons_zero]
  refine ⟨?_, ?_, ?_⟩ <;> apply UInt8.toNat_inj.1 <;> show _ = 0 <;> omega
theorem mark_inj {p q : Int} (h1 : 1 ≤ p ∧ p ≤ 250) (h2 : 0 ≤ q ∧ q ≤ 250) (h : (markB p).toNat = (markB q).toNat) : p = q := by
  unfold markB at h
  rw [if_neg (by omega), if_neg (by omega)] at h
  have a := b8_nat p
  have b := b8_nat q
  omega
/-- over another pass -/
theorem torn_other {p pl kd p2 pl2 kd2 : Int} {d d2 : List UInt8} (hm : mayC p pl kd d.length = true) (hm2 : mayC p2 pl2 kd2 d2.length = true) (hne : p ≠ p2) {k : Nat} (hk : 1 ≤ k) (hk2 : k < 64) :
    wholeB ((cellB p pl kd d).take k ++ (cellB p2 pl2 kd2 d2).drop k) = false := by
  obtain ⟨h1, h2⟩ := torn_pass hm hk hk2 (cell_len hm2) (cell_top hm2)
  cases hw : wholeB ((cellB p pl kd d).take k ++ (cellB p2 pl2 kd2 d2).drop k) with
  | false => rfl
  | true =>
    exfalso
    simp only [wholeB, h1, h2, cell_last hm2, Bool.and_eq_true, decide_eq_true_eq] at hw
    obtain ⟨a1, a2, _⟩ := mayC_iff.1 hm
    obtain ⟨b1, b2, _⟩ := mayC_iff.1 hm2
    exact hne (mark_inj ⟨b1, b2⟩ ⟨by omega, a2⟩ (by have := hw.2; omega)).symm
/-- over noughts -/
theorem torn_zero {p pl kd : Int} {d : List UInt8} (hm : mayC p pl kd d.length = true) {k : Nat} (hk2 : k < 64) :
    wholeB ((cellB p pl kd d).take k ++ (List.replicate 64 (0 : UInt8)).drop k) = false := by
  by_cases h0 : k = 0
  · subst h0
    simp only [List.take_zero, List.nil_append, List.drop_zero]
    decide
  · obtain ⟨h1, h2⟩ := torn_pass hm (by omega) hk2 (List.length_replicate (n := 64) (a := (0 : UInt8))) ⟨rfl, rfl, rfl⟩
    cases hw : wholeB ((cellB p pl kd d).take k ++ (List.replicate 64 (0 : UInt8)).drop k) with
    | false => rfl
    | true =>
      exfalso
      have hz : (List.replicate 64 (0 : UInt8)).getD 63 0 = 0 := rfl
      simp only [wholeB, h1, h2, hz, Bool.and_eq_true, decide_eq_true_eq] at hw
      obtain ⟨a1, a2, _⟩ := mayC_iff.1 hm
      have := hw.2
      unfold markB at this
      rw [if_neg (by omega)] at this
      have b := b8_nat p
      have hzz : (0 : UInt8).toNat = 0 := rfl
      omega
end Go.X
namespace Go.X
open Go
theorem rdS_takeB {M : Hp} {A : Option Addr} {l : List UInt8} (h : RdS M A (bv l)) (k : Nat) : RdS M A (bv (l.take k)) := by
  rw [bv_take]
  rcases h with h | ⟨p, hp, h⟩
  · exact .inl (by rw [h, List.take_nil])
  · exact .inr ⟨p, hp, h.take k⟩
/-- the kept cell's data -/
theorem kept {M : Hp} {A : Option Addr} {l : List UInt8} {n k : Nat} (h : RdS M A (bv l)) (hn : n = l.length) (hk : k ≤ n) : ∃ d : List UInt8, k = d.length ∧ RdS M A (bv d) :=
  ⟨l.take k, by rw [List.length_take]; omega, rdS_takeB h k⟩
theorem own_two {z : World} {x y u v : Nat × Obj} {M : Hp} (w : World) (h : Own z w (x :: y :: u :: v :: M)) : Own z w (x :: y :: M) :=
  h.sublist (.cons_cons _ (.cons_cons _ (.cons _ (.cons _ (.refl _)))))
theorem own_two' {z : World} {x y u v : Nat × Obj} {M : Hp} (w : World) (h : Own z w (y :: x :: u :: v :: M)) : Own z w (x :: y :: M) :=
  own_two w (h.perm (List.Perm.swap _ _ _))
end Go.X
namespace Go.X
open Go
theorem turned_fin {p pl kd : Int} {d : List UInt8} (hm : mayC p pl kd d.length = true) {k : Nat} (hk : k < 64) {x : UInt8} {ok : Bool} {e P : Int}
    (hok : ok = wholeB ((cellB p pl kd d).set k ((cellB p pl kd d).getD k 0 ^^^ x)))
    (h : (e = 0 ∧ (ok = true → againB ((cellB p pl kd d).set k ((cellB p pl kd d).getD k 0 ^^^ x)) = (cellB p pl kd d).set k ((cellB p pl kd d).getD k 0 ^^^ x) ∧ mayL ((cellB p pl kd d).set k ((cellB p pl kd d).getD k 0 ^^^ x)) = true ∧ P = (passOf ((cellB p pl kd d).set k ((cellB p pl kd d).getD k 0 ^^^ x)) : Nat))) ∨
      (e = 12 ∧ ok = true ∧ ¬ (mayL ((cellB p pl kd d).set k ((cellB p pl kd d).getD k 0 ^^^ x)) = true ∧ againB ((cellB p pl kd d).set k ((cellB p pl kd d).getD k 0 ^^^ x)) = (cellB p pl kd d).set k ((cellB p pl kd d).getD k 0 ^^^ x)))) :
    ((x.toNat : Int) = 0 ∧ ok = true ∧ e = 0) ∨ ((x.toNat : Int) ≠ 0 ∧ ((ok = false ∧ e = 0) ∨ (ok = true ∧ e = 12))) := by
  by_cases hx : x = 0
  · subst hx
    have e1 : (cellB p pl kd d).set k ((cellB p pl kd d).getD k 0 ^^^ 0) = cellB p pl kd d := by
      rw [UInt8.xor_zero]
      apply List.ext_getElem (by simp)
      intro i h1 h2
      rw [List.getElem_set]
      split
      · rename_i hi; subst hi; simp [List.getD_eq_getElem?_getD, h2]
      · rfl
    rw [e1] at h hok
    refine .inl ⟨rfl, hok.trans (cell_whole hm), ?_⟩
    rcases h with ⟨h, _⟩ | ⟨_, _, h⟩
    · exact h
    · exact absurd ⟨cell_may hm, cell_again hm⟩ h
  · refine .inr ⟨fun h0 => hx (UInt8.toNat_inj.1 (by simpa using h0)), ?_⟩
    cases ok with
    | false => exact .inl ⟨rfl, by rcases h with ⟨h, _⟩ | ⟨_, h, _⟩ <;> first | exact h | cases h⟩
    | true =>
      refine .inr ⟨rfl, ?_⟩
      rcases h with ⟨_, h⟩ | ⟨h, _⟩
      · obtain ⟨h1, h2, _⟩ := h rfl
        exact absurd h1 (cell_turned hm hk (xor8_ne hx) h2)
      · exact h
end Go.X
namespace Go.X
open Go
theorem torn_fin {p pl kd p2 pl2 kd2 : Int} {d d2 : List UInt8} (hm : mayC p pl kd d.length = true) (hm2 : mayC p2 pl2 kd2 d2.length = true) (hne : p ≠ p2) {k : Nat} (hk : k < 64) {zr ok : Bool} {e P : Int} {lz L : List UInt8}
    (hlz : lz = if zr = true then List.replicate 64 (0 : UInt8) else cellB p2 pl2 kd2 d2) (hL : L = (cellB p pl kd d).take k ++ lz.drop k) (hok : ok = wholeB L)
    (h : (e = 0 ∧ (ok = true → againB L = L ∧ mayL L = true ∧ P = (passOf L : Nat))) ∨ (e = 12 ∧ ok = true ∧ ¬ (mayL L = true ∧ againB L = L))) :
    (ok = false ∧ e = 0) ∨ (ok = true ∧ zr = false ∧ e = 0 ∧ P = p2) := by
  cases ok with
  | false => exact .inl ⟨rfl, by rcases h with ⟨h, _⟩ | ⟨_, h, _⟩ <;> first | exact h | cases h⟩
  | true =>
    cases zr with
    | true => rw [if_pos rfl] at hlz; rw [hL, hlz, torn_zero hm hk] at hok; cases hok
    | false =>
      rw [if_neg (by decide)] at hlz
      by_cases h0 : k = 0
      · have e1 : L = cellB p2 pl2 kd2 d2 := by rw [hL, hlz, h0]; simp
        rw [e1] at h
        refine .inr ⟨rfl, rfl, ?_⟩
        rcases h with ⟨h1, h2⟩ | ⟨_, _, h⟩
        · exact ⟨h1, (h2 rfl).2.2.trans (cell_pass hm2)⟩
        · exact absurd ⟨cell_may hm2, cell_again hm2⟩ h
      · rw [hL, hlz, torn_other hm hm2 hne (by omega) hk] at hok; cases hok
theorem lz_len {p2 pl2 kd2 : Int} {d2 lz : List UInt8} (hm2 : mayC p2 pl2 kd2 d2.length = true) {zr : Bool} (hlz : lz = if zr = true then List.replicate 64 (0 : UInt8) else cellB p2 pl2 kd2 d2) : lz.length = 64 := by
  rw [hlz]; split
  · simp
  · exact cell_len hm2
end Go.X
/- Plain words for collectors, good and bad. -/
set_option linter.unusedVariables false
set_option linter.unusedSimpArgs false
namespace Go.X
open Go Go.RowKit
structure Smp where
  who : Int
  metric : Int
  epoch : Int
  value : Int
abbrev Smp.cs (x : Smp) : List Value := [.int .i64 x.who, .int .i64 x.metric, .int .i64 x.epoch, .int .i64 x.value]
theorem Smp.cs_len (x : Smp) : x.cs.length = 4 := rfl
structure Sr where
  b : Nat
  w : Int
  g : Int
  q : Int
abbrev Sr.ptr (r : Sr) : Value := .pointer (some ⟨r.b, 0, none⟩)
/-- the places below k that are bad -/
def badTo (l : List Bool) : Nat → List Int
  | 0 => []
  | k + 1 => badTo l k ++ (if l.getD k false = true then [(k : Int)] else [])
def bads (l : List Bool) : List Int := badTo l l.length
theorem badTo_t {l : List Bool} {k : Nat} {x : Bool} (h : l[k]? = some x) (c : x = true) : badTo l (k + 1) = badTo l k ++ [(k : Int)] := by
  subst c; simp [badTo, List.getD_eq_getElem?_getD, h]
theorem badTo_f {l : List Bool} {k : Nat} {x : Bool} (h : l[k]? = some x) (c : x = false) : badTo l (k + 1) = badTo l k := by
  subst c; simp [badTo, List.getD_eq_getElem?_getD, h]
theorem badTo_le (l : List Bool) : ∀ k, (badTo l k).length ≤ k
  | 0 => by simp [badTo]
  | k + 1 => by
    have := badTo_le l k
    simp only [badTo]
    split <;> simp <;> omega
theorem one_ptr (b : Nat) : ∀ u ∈ [Value.pointer (some ⟨b, 0, none⟩)], one u = true := by intro u hu; simp at hu; subst hu; rfl
theorem one_int (k : IntKind) (n : Int) : ∀ u ∈ [Value.int k n], one u = true := by intro u hu; simp at hu; subst hu; rfl
theorem get_push {α : Type} {l : List α} {x : α} {P : Nat → α → Prop} (h : ∀ j r, l[j]? = some r → P j r) (hx : P l.length x) : ∀ j r, (l ++ [x])[j]? = some r → P j r := fun j r hj => by
  by_cases h1 : j < l.length
  · rw [List.getElem?_append_left h1] at hj; exact h j r hj
  · rw [List.getElem?_append_right (by omega)] at hj
    have h2 : j - l.length = 0 := by
      have := (List.getElem?_eq_some_iff.1 hj).1
      simp at this; omega
    rw [h2] at hj
    simp at hj
    have : j = l.length := by omega
    subst this; subst hj; exact hx
end Go.X
/- Moving blocks: for the gate. -/
set_option linter.unusedVariables false
set_option linter.unusedSimpArgs false
namespace Go.X
open Go Go.RowKit
theorem ro_mv2 {z : World} {q p g r o x : Nat × Obj} {L T Q : Hp} : ∀ w, Own z w (q :: (L ++ (p :: g :: r :: o :: x :: (T ++ Q)))) → Own z w (T ++ (q :: (L ++ (p :: g :: r :: o :: x :: Q)))) := fun w h => by
  have h1 := ro_mv (A := q :: (L ++ [p, g, r, o, x])) (L := T) (R := Q) w (by simpa using h)
  simpa using h1
theorem ro_gt {z : World} {q p g r o x : Nat × Obj} {L T Q : Hp} : ∀ w, Own z w (T ++ (q :: (L ++ (p :: g :: r :: o :: x :: Q)))) → Own z w (g :: r :: o :: x :: (L ++ (T ++ (p :: q :: Q)))) := fun w h => by
  have h1 := ro_mv (A := T ++ (q :: (L ++ [p]))) (L := [g, r, o, x]) (R := Q) w (by simpa using h)
  have h2 := h1.perm (M' := [g, r, o, x] ++ ((L ++ (T ++ [p, q])) ++ Q)) (by
    refine List.Perm.append_left _ (List.Perm.append_right Q ?_)
    have a1 : (T ++ (q :: (L ++ [p]))).Perm (q :: (T ++ (L ++ [p]))) := List.perm_middle
    have a2 : (q :: (T ++ (L ++ [p]))).Perm (q :: (L ++ (T ++ [p]))) := List.Perm.cons q (by
      rw [← List.append_assoc, ← List.append_assoc]
      exact List.perm_append_comm.append_right [p])
    have a3 : (q :: (L ++ (T ++ [p]))).Perm ((L ++ (T ++ [p])) ++ [q]) := (List.perm_append_singleton q _).symm
    refine a1.trans (a2.trans (a3.trans ?_))
    simp)
  simpa using h2
theorem ro_gi {z : World} {q p : Nat × Obj} {A L T X Y M : Hp} : ∀ w, Own z w (A ++ (L ++ (T ++ (p :: q :: (X ++ (Y ++ M)))))) → Own z w (A ++ (L ++ (T ++ ((X ++ [p]) ++ ((Y ++ [q]) ++ M))))) := fun w h => h.perm (by
  refine List.Perm.append_left A (List.Perm.append_left L (List.Perm.append_left T ?_))
  have a1 : (p :: q :: (X ++ (Y ++ M))).Perm (p :: (X ++ (q :: (Y ++ M)))) := List.Perm.cons p List.perm_middle.symm
  have a2 : (p :: (X ++ (q :: (Y ++ M)))).Perm (p :: (X ++ (Y ++ (q :: M)))) := List.Perm.cons p (List.Perm.append_left X List.perm_middle.symm)
  have a3 : (p :: (X ++ (Y ++ (q :: M)))).Perm (X ++ (p :: (Y ++ (q :: M)))) := List.perm_middle.symm
  refine a1.trans (a2.trans (a3.trans ?_))
  simp)
end Go.X
namespace Go.X
theorem ro_pre1 {z : World} {a : Nat × Obj} {L : Hp} : ∀ w, Own z w (a :: L) → Own z w [a] := ro_pre (M := [a]) (L := L)
end Go.X
namespace Go.X
theorem ro_pre2 {z : World} {a b : Nat × Obj} {L : Hp} : ∀ w, Own z w (a :: b :: L) → Own z w [a, b] := ro_pre (M := [a, b]) (L := L)
end Go.X
/- The engine: functions and nil. -/
set_option linter.unusedVariables false
set_option linter.unusedSimpArgs false
namespace Go.X
open Go Go.RowKit
section
variable {P : Program} {N : Nat} {z : World} {E : Env} {M : Hp}
variable {dst : Option Tmp} {ty : TypeId} {pos : String} {af : Array Edge} {gu : Option (Nat × Bool)} {t yt : TypeId} {x y : Operand}
def fnQ (P : Program) (t : TypeId) : Bool := match P.underlying t with | some (.func _ _ _) => true | _ => false
theorem fnQ_spec {t : TypeId} (h : fnQ P t = true) : ∃ a b c, P.underlying t = some (.func a b c) := by
  unfold fnQ at h; split at h
  · rename_i a b c he; exact ⟨a, b, c, he⟩
  · cases h
theorem Val.neqNilF (hx : ev E x = some .nilFunc) (hy : ev E y = some .nilFunc) (ht : fnQ P t = true) : Val P N z E M ⟨dst, .binOp .neq t x y yt, ty, pos, af, gu⟩ (.bool false) := fun a w ha hw => by
  obtain ⟨p, q, r, ht⟩ := fnQ_spec ht
  have hq : eqGuard .neq t x y .nilFunc .nilFunc = pure () := rfl
  have he : (Op.equal t .nilFunc .nilFunc).run P w = .ok true w := by
    show (Op.equalIn (9999 + 1) t _ _).run P w = _
    unfold Op.equalIn
    simp only [Sem.run_bind, run_underlying ht, Result.andThen, Sem.run_pure]
  simp only [execOp, ha.ev hx, ha.ev hy, hq, binOp, Sem.run_bind, Sem.run_pure, he, Result.andThen]
  rfl
theorem Val.neqFun {f : Go.Fn} {u v : Array Value} (hx : ev E x = some (.func f u v)) (hy : ev E y = some .nilFunc) (ht : fnQ P t = true) : Val P N z E M ⟨dst, .binOp .neq t x y yt, ty, pos, af, gu⟩ (.bool true) := fun a w ha hw => by
  obtain ⟨p, q, r, ht⟩ := fnQ_spec ht
  have hq : eqGuard .neq t x y (.func f u v) .nilFunc = pure () := rfl
  have he : (Op.equal t (.func f u v) .nilFunc).run P w = .ok false w := by
    show (Op.equalIn (9999 + 1) t _ _).run P w = _
    unfold Op.equalIn
    simp only [Sem.run_bind, run_underlying ht, Result.andThen, Sem.run_pure]
  simp only [execOp, ha.ev hx, ha.ev hy, hq, binOp, Sem.run_bind, Sem.run_pure, he, Result.andThen]
  rfl
end
end Go.X
/- The engine: structs that are compared. -/
set_option linter.unusedVariables false
set_option linter.unusedSimpArgs false
namespace Go.X
open Go Go.RowKit
/-- What comes of comparing two values of a type, n deep at most. -/
def EqV (P : Program) (n : Nat) (t : TypeId) (a b : Value) (r : Bool) : Prop := ∀ d w, (Op.equalIn (d + n) t a b).run P w = .ok r w
/-- What comes of comparing the fields from number i on. -/
def EqI (P : Program) (n : Nat) (t : TypeId) (xs ys : Array Value) (i : Nat) (r : Bool) : Prop := ∀ d w, (Op.eqFields (d + n) xs ys ((P.fieldsOf t).toList.drop i)).run P w = .ok r w
def namesQ (P : Program) (t : TypeId) : Bool := (P.fieldsOf t).toList.all (fun f => f.name != "_")
def strQ (P : Program) (t : TypeId) : Bool := match P.underlying t with | some (.struct _) => !(P.stoodInHeld t) | _ => false
section
variable {P : Program} {N : Nat} {z : World} {E : Env} {M : Hp}
variable {dst : Option Tmp} {ty : TypeId} {pos : String} {af : Array Edge} {gu : Option (Nat × Bool)} {t yt : TypeId} {x y : Operand}
theorem EqV.int {n : Nat} {k k' : IntKind} {a b : Int} (h : intQ P t = some k') : EqV P (n + 1) t (.int k a) (.int k b) (decide (a = b)) := fun d w => by
  rw [← Nat.add_assoc, run_equalIn_int w (d + n) t k k' a b (intQ_spec h)]
  rfl
theorem EqV.bool {n : Nat} {a b : Bool} (h : P.underlying t = some .bool) : EqV P (n + 1) t (.bool a) (.bool b) (a == b) := fun d w => by
  rw [← Nat.add_assoc]
  exact run_equalIn_bool' w (d + n) t a b h
theorem fldQ_fs {t : TypeId} {i off : Nat} {ft : TypeId} (h : fldQ P t i = some (off, ft)) : ∃ f : Field, (P.fieldsOf t).toList[i]? = some f ∧ f.offset = off ∧ f.type = ft := by
  unfold fldQ at h
  split at h
  · rename_i fs hfs
    simp only [Option.map_eq_some_iff] at h
    obtain ⟨f, h1, h2⟩ := h
    cases h2
    exact ⟨f, by rw [Program.fieldsOf]; simp only [hfs]; simpa using h1, rfl, rfl⟩
  · cases h
theorem EqI.done {n : Nat} {xs ys : Array Value} {i : Nat} (h : (P.fieldsOf t).size ≤ i) : EqI P n t xs ys i true := fun d w => by
  rw [List.drop_eq_nil_of_le (by simpa using h)]
  simp [Op.eqFields]
theorem EqI.cons {n : Nat} {xs ys : Array Value} {i off : Nat} {ft : TypeId} {a b : Value} {r1 r2 : Bool} (hf : fldQ P t i = some (off, ft)) (hn : namesQ P t = true) (ha : aggQ P ft = some false) (hx : nth xs.toList off = some a) (hy : nth ys.toList off = some b)
    (h : EqV P n ft a b r1) (k : EqI P n t xs ys (i + 1) r2) : EqI P n t xs ys i (r1 && r2) := fun d w => by
  obtain ⟨f, h1, h2, h3⟩ := fldQ_fs hf
  have hlt : i < (P.fieldsOf t).toList.length := (List.getElem?_eq_some_iff.1 h1).1
  have he : (P.fieldsOf t).toList.drop i = f :: (P.fieldsOf t).toList.drop (i + 1) := by
    rw [List.drop_eq_getElem_cons hlt]
    congr 1
    exact (List.getElem?_eq_some_iff.1 h1).2
  have hne : f.name ≠ "_" := by
    have := List.all_eq_true.1 hn f (List.mem_of_getElem? h1)
    simpa using this
  rw [nth_eq, Array.getElem?_toList] at hx hy
  have p1 : (part f.type xs f.offset).run P w = .ok a w := by
    rw [h2, h3]; simp [part, run_isAgg ha, Result.andThen, hx]
  have p2 : (part f.type ys f.offset).run P w = .ok b w := by
    rw [h2, h3]; simp [part, run_isAgg ha, Result.andThen, hy]
  rw [he]
  simp only [Op.eqFields, hne, ne_eq, not_false_eq_true, if_true, Sem.run_bind, p1, p2, Result.andThen_ok]
  rw [h3, h d w]
  simp only [Result.andThen_ok]
  cases r1
  · simp
  · simpa using k d w
theorem EqV.struct {n : Nat} {xs ys : Array Value} {r : Bool} (hs : strQ P t = true) (h : EqI P n t xs ys 0 r) : EqV P (n + 1) t (.agg xs) (.agg ys) r := fun d w => by
  unfold strQ at hs
  split at hs
  · rename_i fs hfs
    have e : P.fieldsOf t = fs := by simp [Program.fieldsOf, hfs]
    rw [← Nat.add_assoc, run_equalIn_struct w (d + n) t xs ys (by rw [e]; exact hfs) (by simpa using hs)]
    have := h d w
    rwa [List.drop_zero] at this
  · cases hs
theorem Val.eqlG {n : Nat} {xs ys : Array Value} {b : Bool} (hx : ev E x = some (.agg xs)) (hy : ev E y = some (.agg ys)) (he : P.eqGuardType P.depth t = false) (h : EqV P n t (.agg xs) (.agg ys) b) (hn : n ≤ 10000) :
    Val P N z E M ⟨dst, .binOp .eql t x y yt, ty, pos, af, gu⟩ (.bool b) := fun a w ha hw => by
  have hq : (eqGuard .eql t x y (.agg xs) (.agg ys)).run P w = .ok () w := by
    simp [eqGuard, he]
  have h2 : (Op.equal t (.agg xs) (.agg ys)).run P w = .ok b w := by
    have := h (10000 - n) w
    rw [show 10000 - n + n = 10000 by omega] at this
    exact this
  simp only [execOp, ha.ev hx, ha.ev hy, hq, binOp, Sem.run_bind, Sem.run_pure, h2, Result.andThen]
theorem Val.neqG {n : Nat} {xs ys : Array Value} {b : Bool} (hx : ev E x = some (.agg xs)) (hy : ev E y = some (.agg ys)) (he : P.eqGuardType P.depth t = false) (h : EqV P n t (.agg xs) (.agg ys) b) (hn : n ≤ 10000) :
    Val P N z E M ⟨dst, .binOp .neq t x y yt, ty, pos, af, gu⟩ (.bool (!b)) := fun a w ha hw => by
  have hq : (eqGuard .neq t x y (.agg xs) (.agg ys)).run P w = .ok () w := by
    simp [eqGuard, he]
  have h2 : (Op.equal t (.agg xs) (.agg ys)).run P w = .ok b w := by
    have := h (10000 - n) w
    rw [show 10000 - n + n = 10000 by omega] at this
    exact this
  simp only [execOp, ha.ev hx, ha.ev hy, hq, binOp, Sem.run_bind, Sem.run_pure, h2, Result.andThen]
end
end Go.X
/- Plain words for what was said and kept. -/
set_option linter.unusedVariables false
set_option linter.unusedSimpArgs false
namespace Go.X
open Go Go.RowKit
def sameS (x : Smp) (k me e : Int) : Bool := (decide (x.who = k) && decide (x.metric = me)) && decide (x.epoch = e)
theorem any_t {f : Smp → Bool} {kept : List Smp} {j : Nat} {x : Smp} (hx : kept[j]? = some x) (c : f x = true) : decide ((0 : Int) ≤ ((j : Nat) : Int)) = kept.any f := by
  have h : kept.any f = true := List.any_eq_true.2 ⟨x, List.mem_of_getElem? hx, c⟩
  rw [h]; simp
theorem any_f {f : Smp → Bool} {kept : List Smp} {j : Nat} (h : ∀ x ∈ kept.take j, f x = false) (hj : j = kept.length) : decide ((0 : Int) ≤ -1) = kept.any f := by
  subst hj
  rw [List.take_length] at h
  have h : kept.any f = false := List.any_eq_false.2 (fun x hx => by simp [h x hx])
  rw [h]; rfl
theorem take_no {f : Smp → Bool} {kept : List Smp} {j : Nat} {x : Smp} (h : ∀ x ∈ kept.take j, f x = false) (hx : kept[j]? = some x) (c : f x = false) : ∀ x ∈ kept.take (j + 1), f x = false := fun y hy => by
  rw [List.take_add_one, hx] at hy
  rcases List.mem_append.1 hy with h1 | h1
  · exact h y h1
  · simp at h1; subst h1; exact c
theorem one_smp (x : Smp) : ∀ u ∈ x.cs, one u = true := by intro u hu; simp at hu; rcases hu with rfl | rfl | rfl | rfl <;> rfl
def selS (x : Smp) (w me e : Int) (bad : Bool) : Bool := ((decide (x.who = w) && !bad) && decide (x.epoch = e)) && decide (x.metric = me)
/-- of one collector, the values kept among the first j -/
def honIn (kept : List Smp) (w me e : Int) (bad : Bool) : Nat → List Int
  | 0 => []
  | j + 1 => honIn kept w me e bad j ++ (match kept[j]? with | some x => if selS x w me e bad = true then [x.value] else [] | none => [])
def honTo (l : List Bool) (kept : List Smp) (me e : Int) : Nat → List Int
  | 0 => []
  | w + 1 => honTo l kept me e w ++ honIn kept (w : Nat) me e (l.getD w false) kept.length
def hon (l : List Bool) (kept : List Smp) (me e : Int) : List Int := honTo l kept me e l.length
theorem hon_t {kept : List Smp} {w me e : Int} {bad : Bool} {j : Nat} {x : Smp} (hx : kept[j]? = some x) (c : selS x w me e bad = true) : honIn kept w me e bad (j + 1) = honIn kept w me e bad j ++ [x.value] := by simp [honIn, hx, c]
theorem hon_f {kept : List Smp} {w me e : Int} {bad : Bool} {j : Nat} {x : Smp} (hx : kept[j]? = some x) (c : selS x w me e bad = false) : honIn kept w me e bad (j + 1) = honIn kept w me e bad j := by simp [honIn, hx, c]
theorem hon_S {l : List Bool} {kept : List Smp} {me e : Int} {w : Nat} {y : Bool} (hy : l[w]? = some y) : honTo l kept me e (w + 1) = honTo l kept me e w ++ honIn kept (w : Nat) me e y kept.length := by
  simp [honTo, List.getD_eq_getElem?_getD, hy]
theorem honIn_le (kept : List Smp) (w me e : Int) (bad : Bool) : ∀ j, (honIn kept w me e bad j).length ≤ j
  | 0 => by simp [honIn]
  | j + 1 => by
    have := honIn_le kept w me e bad j
    simp only [honIn, List.length_append]
    split
    · split <;> simp <;> omega
    · simp; omega
theorem honTo_le (l : List Bool) (kept : List Smp) (me e : Int) : ∀ w, (honTo l kept me e w).length ≤ w * kept.length
  | 0 => by simp [honTo]
  | w + 1 => by
    have h1 := honTo_le l kept me e w
    have h2 := honIn_le kept (w : Nat) me e (l.getD w false) kept.length
    simp only [honTo, List.length_append, Nat.add_mul]; omega
end Go.X
namespace Go.X
theorem ss4 {ss : List Sr} (h : ss.length = 4) (hw : ∀ (k : Nat) (r : Sr), ss[k]? = some r → r.w = k ∧ r.g = 0 ∧ r.q = 0) : ∃ s0 s1 s2 s3 : Nat, ss = [⟨s0, 0, 0, 0⟩, ⟨s1, 1, 0, 0⟩, ⟨s2, 2, 0, 0⟩, ⟨s3, 3, 0, 0⟩] := by
  match ss, h with
  | [⟨a0, w0, g0, q0⟩, ⟨a1, w1, g1, q1⟩, ⟨a2, w2, g2, q2⟩, ⟨a3, w3, g3, q3⟩], _ =>
    obtain ⟨e0, f0, j0⟩ := hw 0 _ rfl
    obtain ⟨e1, f1, j1⟩ := hw 1 _ rfl
    obtain ⟨e2, f2, j2⟩ := hw 2 _ rfl
    obtain ⟨e3, f3, j3⟩ := hw 3 _ rfl
    simp only at e0 f0 j0 e1 f1 j1 e2 f2 j2 e3 f3 j3
    subst e0 f0 j0 e1 f1 j1 e2 f2 j2 e3 f3 j3
    exact ⟨a0, a1, a2, a3, rfl⟩
end Go.X
/- Plain words: how many are bad, and in which order they are told. -/
set_option linter.unusedVariables false
set_option linter.unusedSimpArgs false
namespace Go.X
open Go Go.RowKit
theorem badTo_count (l : List Bool) : ∀ n, n ≤ l.length → (badTo l n).length = (l.take n).count true
  | 0, _ => by simp [badTo]
  | n + 1, h => by
    have ih := badTo_count l n (by omega)
    have hx : l[n]? = some l[n] := List.getElem?_eq_getElem (by omega)
    rw [List.take_add_one, hx, List.count_append, ← ih]
    cases hb : l[n] with
    | true => rw [badTo_t (x := true) (by rw [hx, hb]) rfl]; simp
    | false => rw [badTo_f (x := false) (by rw [hx, hb]) rfl]; simp
theorem bads_count (l : List Bool) : (bads l).length = l.count true := by
  rw [bads, badTo_count l _ (Nat.le_refl _), List.take_length]
theorem bads_set {l : List Bool} {k : Nat} (h : l[k]? = some false) : (bads (l.set k true)).length = (bads l).length + 1 := by
  obtain ⟨hk, hv⟩ := List.getElem?_eq_some_iff.1 h
  rw [bads_count, bads_count, List.set_eq_take_append_cons_drop, if_pos hk, List.count_append, List.count_cons]
  have e : l = l.take k ++ false :: l.drop (k + 1) := by
    rw [← hv, ← List.drop_eq_getElem_cons hk, List.take_append_drop]
  have e2 : l.count true = (l.take k).count true + (l.drop (k + 1)).count true := by
    conv => lhs; rw [e]
    rw [List.count_append, List.count_cons]; simp
  rw [e2]; simp; omega
theorem set_same {l : List Bool} {k : Nat} (h : l[k]? = some true) : l.set k true = l := by
  obtain ⟨hk, hv⟩ := List.getElem?_eq_some_iff.1 h
  conv => lhs; rw [← hv]
  exact List.set_getElem_self hk
theorem badTo_mem {l : List Bool} : ∀ {n : Nat} {x : Int}, x ∈ badTo l n → ∃ q : Nat, x = q ∧ q < n ∧ l.getD q false = true
  | 0, x, h => by simp [badTo] at h
  | n + 1, x, h => by
    simp only [badTo, List.mem_append] at h
    rcases h with h | h
    · obtain ⟨q, h1, h2, h3⟩ := badTo_mem h
      exact ⟨q, h1, by omega, h3⟩
    · split at h
      · simp at h; exact ⟨n, h, by omega, by assumption⟩
      · simp at h
theorem badTo_sorted (l : List Bool) : ∀ n, (badTo l n).Pairwise (· < ·)
  | 0 => by simp [badTo]
  | n + 1 => by
    simp only [badTo]
    refine List.pairwise_append.2 ⟨badTo_sorted l n, by split <;> simp, fun x hx y hy => ?_⟩
    obtain ⟨q, h1, h2, _⟩ := badTo_mem hx
    split at hy
    · simp at hy; omega
    · simp at hy
theorem bads_get {l : List Bool} {j : Nat} {x : Int} (h : (bads l)[j]? = some x) : ∃ q : Nat, x = q ∧ q < l.length ∧ l[q]? = some true := by
  obtain ⟨q, h1, h2, h3⟩ := badTo_mem (List.mem_of_getElem? h)
  refine ⟨q, h1, h2, ?_⟩
  rw [List.getD_eq_getElem?_getD, List.getElem?_eq_getElem h2] at h3
  rw [List.getElem?_eq_getElem h2]
  simpa using h3
theorem bads_lt {l : List Bool} {i j : Nat} {x y : Int} (hij : i < j) (hx : (bads l)[i]? = some x) (hy : (bads l)[j]? = some y) : x < y := by
  obtain ⟨h1, rfl⟩ := List.getElem?_eq_some_iff.1 hx
  obtain ⟨h2, rfl⟩ := List.getElem?_eq_some_iff.1 hy
  exact List.pairwise_iff_getElem.1 (badTo_sorted l l.length) i j h1 h2 hij
theorem hp_self {H : Hp} {j : Nat} {x : Nat × Obj} (h : H[j]? = some x) : H.set j x = H := by
  obtain ⟨hk, hv⟩ := List.getElem?_eq_some_iff.1 h
  rw [← hv]
  exact List.set_getElem_self hk
theorem ro_keep2 {z : World} {a b c x : Nat × Obj} {L M : Hp} : ∀ w, Own z w (a :: b :: c :: (L ++ x :: M)) → Own z w (x :: a :: b :: M) := fun w h => by
  have h1 : Own z w ([x] ++ ((a :: b :: c :: L) ++ M)) := ro_mv (A := a :: b :: c :: L) (L := [x]) w h
  refine h1.sublist ?_
  simp only [List.cons_append, List.nil_append]
  exact ((((List.sublist_append_right L M).cons c).cons_cons b).cons_cons a).cons_cons x
theorem bads_0 (n : Nat) : (bads (List.replicate n false)).length = 0 := by rw [bads_count, List.count_eq_zero]; simp
theorem ro_d4 {z : World} {a b c d : Nat × Obj} {L M : Hp} : ∀ w, Own z w (a :: b :: c :: d :: (L ++ M)) → Own z w (a :: b :: c :: d :: M) := fun w h =>
  h.sublist ((((List.sublist_append_right L M).cons_cons d).cons_cons c).cons_cons b |>.cons_cons a)
theorem pad_get {l : List Bool} {k n : Nat} {y : Bool} (h : l[k]? = some y) : (l ++ List.replicate n false)[k]? = some y := by
  rw [List.getElem?_append_left (List.getElem?_eq_some_iff.1 h).1]; exact h
theorem pad_set {l : List Bool} {k n : Nat} (h : k < l.length) : (l ++ List.replicate n false).set k true = l.set k true ++ List.replicate n false := by
  rw [List.set_append_left _ _ h]
end Go.X
/- Moving blocks: for a rotation. -/
set_option linter.unusedVariables false
set_option linter.unusedSimpArgs false
namespace Go.X
open Go Go.RowKit
theorem ro_gb {z : World} {a r o n l k b : Nat × Obj} {T : Hp} : ∀ w, Own z w (a :: r :: o :: n :: l :: k :: b :: T) → Own z w [a, b] := fun w h => h.sublist (by
  refine List.Sublist.cons_cons a ?_
  refine (List.Sublist.cons r (List.Sublist.cons o (List.Sublist.cons n (List.Sublist.cons l (List.Sublist.cons k ?_)))))
  exact List.Sublist.cons_cons b (List.nil_sublist T))
theorem row_set {α : Type} {f : α → Value} {l : List α} {s : List Value} {k : Nat} (h : k < l.length) (a : α) : (l.map f ++ s).take k ++ [f a] ++ (l.map f ++ s).drop (k + 1) = (l.set k a).map f ++ s := by
  rw [List.take_append_of_le_length (by simp; omega), List.drop_append_of_le_length (by simp; omega), ← List.append_assoc, map_set1 h a]
theorem ro_rt {z : World} {n a b c d e k m : Nat × Obj} {T : Hp} : ∀ w, Own z w (n :: a :: b :: c :: d :: e :: k :: m :: T) → Own z w (a :: b :: c :: d :: e :: n :: T) := fun w h => by
  have h1 := ro_mv (A := [n]) (L := [a, b, c, d, e]) (R := k :: m :: T) w h
  refine h1.sublist ?_
  simp only [List.cons_append, List.nil_append]
  exact ((((((List.Sublist.refl T).cons m).cons k).cons_cons n).cons_cons e).cons_cons d |>.cons_cons c |>.cons_cons b |>.cons_cons a)
end Go.X
/- Plain words: a tag comes back from its bytes; one that was spoilt does not. -/
set_option linter.unusedVariables false
set_option linter.unusedSimpArgs false
namespace Go.X
open Go Go.RowKit
theorem tagOf_bd (k : K2) (l : List UInt8) : (0 ≤ (tagOf k l).a ∧ (tagOf k l).a ≤ 18446744073709551615) ∧ (0 ≤ (tagOf k l).b ∧ (tagOf k l).b ≤ 18446744073709551615) := ⟨sipSum_bd _ _ _, sipSum_bd _ _ _⟩
theorem tagB_get {t : K2} (ha : 0 ≤ t.a ∧ t.a ≤ 18446744073709551615) (hb : 0 ≤ t.b ∧ t.b ≤ 18446744073709551615) : ((get8 (tagB t) 0 : Nat) : Int) = t.a ∧ ((get8 (tagB t) 8 : Nat) : Int) = t.b := by
  constructor
  · have h := get8_put' (x := t.a) (o := 0) (pre := []) (post := put8 t.b) ha rfl
    simpa [tagB] using h
  · have h := get8_put' (x := t.b) (o := 8) (pre := put8 t.a) (post := []) hb (by simp)
    simpa [tagB] using h
theorem same_yes {t : K2} (ha : 0 ≤ t.a ∧ t.a ≤ 18446744073709551615) (hb : 0 ≤ t.b ∧ t.b ≤ 18446744073709551615) : bitsOf .or .u64 (xor64 t.a (get8 (tagB t) 0 : Nat)) (xor64 t.b (get8 (tagB t) 8 : Nat)) = 0 := by
  obtain ⟨h1, h2⟩ := tagB_get ha hb
  rw [h1, h2]
  exact (same_iff ha ha hb hb).2 ⟨rfl, rfl⟩
theorem get8_mod (l : List UInt8) (o : Nat) : get8 l o % 256 = (l.getD o 0).toNat := by
  have h := UInt8.toNat_lt (l.getD o 0)
  simp only [get8, getTo, Nat.reduceMul, Nat.reducePow, Nat.reduceAdd, Nat.add_zero]
  omega
theorem get8_bd (l : List UInt8) (o : Nat) : 0 ≤ ((get8 l o : Nat) : Int) ∧ ((get8 l o : Nat) : Int) ≤ 18446744073709551615 := by
  have h := getTo_lt l o 8
  have e : 2 ^ (8 * 8) = 18446744073709551616 := by decide
  rw [e] at h
  unfold get8; omega
theorem same_no {t : K2} (ha : 0 ≤ t.a ∧ t.a ≤ 18446744073709551615) (hb : 0 ≤ t.b ∧ t.b ≤ 18446744073709551615) {c : UInt8} (hc : c ≠ (tagB t).getD 8 0) :
    bitsOf .or .u64 (xor64 t.a (get8 ((tagB t).set 8 c) 0 : Nat)) (xor64 t.b (get8 ((tagB t).set 8 c) 8 : Nat)) ≠ 0 := fun h => by
  have h1 := ((same_iff ha (get8_bd _ _) hb (get8_bd _ _)).1 h).2
  have h2 := (tagB_get ha hb).2
  have h3 : get8 ((tagB t).set 8 c) 8 = get8 (tagB t) 8 := by omega
  have h4 := get8_mod ((tagB t).set 8 c) 8
  rw [h3, get8_mod] at h4
  have h5 : ((tagB t).set 8 c).getD 8 0 = c := by rw [List.getD_eq_getElem?_getD, List.getElem?_set, if_pos rfl, if_pos (by simp)]; rfl
  rw [h5] at h4
  exact hc (UInt8.toNat_inj.1 h4.symm)
theorem list4 {α : Type} {l : List α} (h : l.length = 4) : ∃ a b c d, l = [a, b, c, d] := by
  match l, h with
  | [a, b, c, d], _ => exact ⟨a, b, c, d, rfl⟩
end Go.X
namespace Go.X
theorem putM_tag (k : K2) (m : Ms) : sealB k m = putM m ++ tagB (tagOf k (putM m)) := rfl
end Go.X
namespace Go.X
open Go
theorem ro_bxf {z : World} {s g r o n l b : Nat × Obj} {X Y M : Hp} : ∀ w, Own z w (s :: g :: r :: o :: n :: l :: (X ++ (Y ++ (b :: M)))) → Own z w (g :: r :: o :: n :: l :: b :: s :: (X ++ (Y ++ M))) := fun w h => by
  have h1 := ro_mv (A := s :: g :: r :: o :: n :: l :: (X ++ Y)) (L := [b]) (R := M) w (by simpa using h)
  have h2 := ro_mv (A := [b, s]) (L := [g, r, o, n, l]) (R := X ++ (Y ++ M)) w (by simpa using h1)
  simpa using h2
end Go.X
