/- Texts put together: ES16, ES18c, ES18d, E18, E19, E20, E21, ES9, E22, ES10, ES8. -/
import Derived.Test.YtphoapajlcaoeaaG1
import Derived.Laws.StructEq
import Derived.DataElems
/- Plain words for the reference's hash. -/
set_option linter.unusedVariables false
set_option linter.unusedSimpArgs false
namespace Go.X
open Go Go.RowKit
theorem xor64_comm (a b : Int) : xor64 a b = xor64 b a := by rw [xor64_eq, xor64_eq, BitVec.xor_comm]
def padB (l : List UInt8) : List UInt8 := l ++ List.replicate (7 - l.length % 8) 0 ++ [b8 l.length]
theorem padB_len (l : List UInt8) : (padB l).length = 8 * (l.length / 8) + 8 := by
  simp [padB]; omega
theorem get8_pre {l m : List UInt8} {o : Nat} (h : o + 8 ≤ l.length) : get8 (l ++ m) o = get8 l o := by
  have key : ∀ n, n ≤ 8 → getTo (l ++ m) o n = getTo l o n := fun n => by
    induction n with
    | zero => intro _; rfl
    | succ n ih =>
      intro hn
      rw [getTo, getTo, ih (by omega)]
      congr 2
      simp only [List.getD_eq_getElem?_getD]
      rw [List.getElem?_append_left (by omega)]
  exact key 8 (Nat.le_refl _)
theorem absorb_pad (l : List UInt8) (w : W4) : ∀ k, k ≤ l.length / 8 → absorb (padB l) k w = absorb l k w
  | 0, _ => rfl
  | k + 1, h => by
    rw [absorb, absorb, absorb_pad l w k (by omega)]
    congr 2
    rw [padB, List.append_assoc, get8_pre (by omega)]
theorem sum_pad (k : K2) (l : List UInt8) : endW (absorb (padB l) (l.length / 8 + 1) (keyW k.a k.b)) = sipSum k.a k.b l := by
  rw [sipSum, absorb, absorb_pad l _ _ (Nat.le_refl _)]
  congr 3
  rw [← get8_drop (padB l) (8 * (l.length / 8))]
  congr 1
  rw [padB, lastB, List.append_assoc, List.drop_append_of_le_length (by omega), List.append_assoc]
abbrev wc (w : W4) : Array Value := #[.int .u64 w.a, .int .u64 w.b, .int .u64 w.c, .int .u64 w.d]
end Go.X
/- Plain words for the log: a cell with a byte turned, a torn cell. -/
set_option linter.unusedVariables false
set_option linter.unusedSimpArgs false
namespace Go.X
open Go

theorem xor8 (a b : UInt8) : bitsOf .xor .u8 (a.toNat : Int) (b.toNat : Int) = ((a ^^^ b).toNat : Int) := by
  have ha : a.toNat < 256 := UInt8.toNat_lt _
  have hb : b.toNat < 256 := UInt8.toNat_lt _
  have h : bitsOf .xor .u8 (a.toNat : Int) (b.toNat : Int) = IntKind.u8.wrap (((BitVec.ofInt 8 (a.toNat : Int)) ^^^ (BitVec.ofInt 8 (b.toNat : Int))).toNat : Nat) := rfl
  have hlt : a.toNat ^^^ b.toNat < 2 ^ 8 := Nat.xor_lt_two_pow ha hb
  rw [h, BitVec.ofInt_natCast, BitVec.ofInt_natCast, BitVec.toNat_xor, BitVec.toNat_ofNat, BitVec.toNat_ofNat, Nat.mod_eq_of_lt ha, Nat.mod_eq_of_lt hb, UInt8.toNat_xor]
  exact w_u8 (by omega) (by omega)
theorem xor8_ne {a b : UInt8} (h : b ≠ 0) : a ^^^ b ≠ a := by
  intro e
  apply h
  have : a ^^^ (a ^^^ b) = a ^^^ a := by rw [e]
  rw [← UInt8.xor_assoc, UInt8.xor_self, UInt8.zero_xor] at this
  exact this

theorem pb4_inj {m n : Nat} (hm : m < 4294967296) (hn : n < 4294967296) (h : (put8 (m : Int)).take 4 = (put8 (n : Int)).take 4) : m = n := by
  simp only [put8, pb, List.nil_append, List.cons_append, List.take_succ_cons, List.take_zero, List.cons.injEq, and_true] at h
  obtain ⟨h0, h1, h2, h3⟩ := h
  have e : ∀ k, byteAt (m : Int) k = byteAt (n : Int) k → (((m : Int) / 2 ^ (8 * k)) % 256).toNat = (((n : Int) / 2 ^ (8 * k)) % 256).toNat := fun k hk => by
    rw [← byteAt_nat, ← byteAt_nat, hk]
  have e0 := e 0 h0
  have e1 := e 1 h1
  have e2 := e 2 h2
  have e3 := e 3 h3
  simp only [Nat.reduceMul, Int.reducePow, Int.ediv_one] at e0 e1 e2 e3
  omega

theorem cell_inj {p pl kd p2 pl2 kd2 : Int} {d d2 : List UInt8} (hm : mayC p pl kd d.length = true) (hm2 : mayC p2 pl2 kd2 d2.length = true) :
    cellB p pl kd d = cellB p2 pl2 kd2 d2 ↔ (((p = p2 ∧ pl = pl2) ∧ kd = kd2) ∧ d = d2) := by
  constructor
  · intro h
    refine ⟨⟨⟨?_, ?_⟩, ?_⟩, ?_⟩
    · rw [← cell_pass hm, ← cell_pass hm2, h]
    · rw [← cell_pl hm, ← cell_pl hm2, h]
    · rw [← cell_kd hm, ← cell_kd hm2, h]
    · rw [← cell_d hm, ← cell_d hm2, h]
  · rintro ⟨⟨⟨rfl, rfl⟩, rfl⟩, rfl⟩; rfl

theorem set_append_lt {α : Type} {l m : List α} {k : Nat} {c : α} (h : k < l.length) : (l ++ m).set k c = l.set k c ++ m := by
  rw [List.set_append, if_pos h]
theorem set_append_ge {α : Type} {l m : List α} {k : Nat} {c : α} (h : l.length ≤ k) : (l ++ m).set k c = l ++ m.set (k - l.length) c := by
  rw [List.set_append, if_neg (by omega)]

/-- a valid cell with one byte turned is no cell put again -/
theorem cell_turned {p pl kd : Int} {d : List UInt8} (hm : mayC p pl kd d.length = true) {k : Nat} (hk : k < 64) {c : UInt8} (hc : c ≠ (cellB p pl kd d).getD k 0)
    (h2 : mayL ((cellB p pl kd d).set k c) = true) : againB ((cellB p pl kd d).set k c) ≠ (cellB p pl kd d).set k c := by
  intro h
  obtain ⟨L, hL⟩ : ∃ L, L = (cellB p pl kd d).set k c := ⟨_, rfl⟩
  rw [← hL] at h h2
  have hl : L.length = 64 := by rw [hL, List.length_set, cell_len hm]
  have hm2 : mayC (passOf L : Nat) (plOf L : Nat) (kdOf L : Nat) (dOf L).length = true := by rw [dOf_len hl]; exact h2
  have hlen := bodyB_len p pl kd d (mayC_iff.1 hm).2.2.2.2.2.2
  have hlen2 := bodyB_len (passOf L : Nat) (plOf L : Nat) (kdOf L : Nat) (dOf L) (mayC_iff.1 hm2).2.2.2.2.2.2
  have hne : (cellB p pl kd d).set k c ≠ cellB p pl kd d := fun e => by
    apply hc
    have e1 : ((cellB p pl kd d).set k c).getD k 0 = c := by simp [List.getD_eq_getElem?_getD, cell_len hm, hk]
    rw [← e1, e]
  unfold againB at h
  have hcell : cellB (passOf L : Nat) (plOf L : Nat) (kdOf L : Nat) (dOf L) = (cellB p pl kd d).set k c := by rw [h, hL]
  by_cases h56 : k < 56
  · have e : (cellB p pl kd d).set k c = (bodyB p pl kd d).set k c ++ ((put8 (sum18 (bodyB p pl kd d) : Nat)).take 4 ++ (List.replicate 3 0 ++ [markB p])) := by
      rw [cellB, List.append_assoc, List.append_assoc, set_append_lt (by omega)]
    rw [e, cellB, List.append_assoc, List.append_assoc] at hcell
    obtain ⟨hb, hr⟩ := List.append_inj hcell (by rw [List.length_set, hlen, hlen2])
    obtain ⟨hs, _⟩ := List.append_inj hr (by simp)
    have b1 := sumTo_bd (bodyB p pl kd d) (bodyB p pl kd d).length (by omega)
    have b2 := sumTo_bd (bodyB (passOf L : Nat) (plOf L : Nat) (kdOf L : Nat) (dOf L)) (bodyB (passOf L : Nat) (plOf L : Nat) (kdOf L : Nat) (dOf L)).length (by omega)
    have hs2 := pb4_inj (by unfold sum18; omega) (by unfold sum18; omega) hs
    rw [hb] at hs2
    have := (sum_set (bodyB p pl kd d) k c (by omega)).1 hs2
    apply hc
    rw [this, cellB, List.append_assoc, List.append_assoc]
    simp only [List.getD_eq_getElem?_getD]
    rw [List.getElem?_append_left (by omega)]
  · have e : (cellB p pl kd d).set k c = bodyB p pl kd d ++ ((put8 (sum18 (bodyB p pl kd d) : Nat)).take 4 ++ (List.replicate 3 0 ++ [markB p])).set (k - (bodyB p pl kd d).length) c := by
      rw [cellB, List.append_assoc, List.append_assoc, set_append_ge (by omega)]
    have hcell2 := hcell
    rw [e, cellB, List.append_assoc, List.append_assoc] at hcell2
    obtain ⟨hb, _⟩ := List.append_inj hcell2 (by rw [hlen, hlen2])
    have hp : ((passOf L : Nat) : Int) = p := by
      have : ∀ {q ql qk : Int} {e : List UInt8}, mayC q ql qk e.length = true → (passOf (bodyB q ql qk e) : Int) = q := fun {q ql qk e} hq => by
        have h1 := cell_pass hq
        have h3 : passOf (cellB q ql qk e) = passOf (bodyB q ql qk e) := by
          have hl := bodyB_len q ql qk e (mayC_iff.1 hq).2.2.2.2.2.2
          have : ∀ j, j < 8 → (cellB q ql qk e).getD j 0 = (bodyB q ql qk e).getD j 0 := fun j hj => by
            rw [cellB, List.append_assoc, List.append_assoc]
            simp only [List.getD_eq_getElem?_getD]
            rw [List.getElem?_append_left (by omega)]
          simp only [passOf, get8, getTo, Nat.zero_add]
          rw [this 0 (by omega), this 1 (by omega), this 2 (by omega), this 3 (by omega), this 4 (by omega), this 5 (by omega), this 6 (by omega), this 7 (by omega)]
        rw [← h3]; exact h1
      rw [← this hm, ← this hm2, hb]
    apply hne
    rw [← hcell, cellB, hb, hp]
    rfl

/-- a part of the first byte on, then another one's -/
theorem torn_pass {p pl kd : Int} {d : List UInt8} (hm : mayC p pl kd d.length = true) {l : List UInt8} {k : Nat} (hk : 1 ≤ k) (hk2 : k < 64) (hl : l.length = 64) (h0 : l.getD 1 0 = 0 ∧ l.getD 2 0 = 0 ∧ l.getD 3 0 = 0) :
    (passOf ((cellB p pl kd d).take k ++ l.drop k) : Int) = p ∧ ((cellB p pl kd d).take k ++ l.drop k).getD 63 0 = l.getD 63 0 := by
  have hc := cell_len hm
  have hg : ∀ j, j < 64 → ((cellB p pl kd d).take k ++ l.drop k).getD j 0 = if j < k then (cellB p pl kd d).getD j 0 else l.getD j 0 := fun j hj => by
    simp only [List.getD_eq_getElem?_getD]
    by_cases h : j < k
    · rw [if_pos h, List.getElem?_append_left (by simp; omega), List.getElem?_take_of_lt h]
    · rw [if_neg h, List.getElem?_append_right (by simp; omega), List.getElem?_drop, List.length_take, Nat.min_eq_left (by omega)]
      congr 2; omega
  refine ⟨?_, ?_⟩
  · obtain ⟨h1, h2, _⟩ := mayC_iff.1 hm
    have hb := fun k => byteAt_nat p k
    have e0 := hb 0
    have e1 := hb 1
    have e2 := hb 2
    have e3 := hb 3
    have c0 : (cellB p pl kd d).getD 0 0 = byteAt p 0 := by rw [cell_head]; rfl
    have c1 : (cellB p pl kd d).getD 1 0 = byteAt p 1 := by rw [cell_head]; rfl
    have c2 : (cellB p pl kd d).getD 2 0 = byteAt p 2 := by rw [cell_head]; rfl
    have c3 : (cellB p pl kd d).getD 3 0 = byteAt p 3 := by rw [cell_head]; rfl
    have hz : (0 : UInt8).toNat = 0 := rfl
    simp only [Nat.reduceMul, Int.reducePow, Nat.reducePow, Int.ediv_one, Nat.mul_one] at e0 e1 e2 e3
    have g0 : (((cellB p pl kd d).take k ++ l.drop k).getD 0 0).toNat = p.toNat := by rw [hg 0 (by omega), if_pos (by omega), c0]; omega
    have g1 : (((cellB p pl kd d).take k ++ l.drop k).getD 1 0).toNat = 0 := by rw [hg 1 (by omega)]; split; rw [c1]; omega; rw [h0.1]; rfl
    have g2 : (((cellB p pl kd d).take k ++ l.drop k).getD 2 0).toNat = 0 := by rw [hg 2 (by omega)]; split; rw [c2]; omega; rw [h0.2.1]; rfl
    have g3 : (((cellB p pl kd d).take k ++ l.drop k).getD 3 0).toNat = 0 := by rw [hg 3 (by omega)]; split; rw [c3]; omega; rw [h0.2.2]; rfl
    simp only [passOf, get8, getTo, Nat.zero_add, g0, g1, g2, g3]
    simp only [Nat.reduceMul, Int.reducePow, Nat.reducePow, Int.ediv_one, Nat.mul_one]
    omega
  · rw [hg 63 (by omega), if_neg (by omega)]
theorem cell_top {p pl kd : Int} {d : List UInt8} (hm : mayC p pl kd d.length = true) : (cellB p pl kd d).getD 1 0 = 0 ∧ (cellB p pl kd d).getD 2 0 = 0 ∧ (cellB p pl kd d).getD 3 0 = 0 := by
  obtain ⟨h1, h2, _⟩ := mayC_iff.1 hm
  have e1 := byteAt_nat p 1
  have e2 := byteAt_nat p 2
  have e3 := byteAt_nat p 3
  simp only [Nat.reduceMul, Int.reducePow] at e1 e2 e3
  rw [cell_head]
  simp only [List.getD_cons_succ, List.getD_cons_zero]
  refine ⟨?_, ?_, ?_⟩ <;> apply UInt8.toNat_inj.1 <;> show _ = 0 <;> omega
theorem mark_inj {p q : Int} (h1 : 1 ≤ p ∧ p ≤ 250) (h2 : 0 ≤ q ∧ q ≤ 250) (h : (markB p).toNat = (markB q).toNat) : p = q := by
  unfold markB at h
  rw [if_neg (by omega), if_neg (by omega)] at h
  have a := b8_nat p
  have b := b8_nat q
  omega
/-- over another pass -/
theorem torn_other {p pl kd p2 pl2 kd2 : Int} {d d2 : List UInt8} (hm : mayC p pl kd d.length = true) (hm2 : mayC p2 pl2 kd2 d2.length = true) (hne : p ≠ p2) {k : Nat} (hk : 1 ≤ k) (hk2 : k < 64) :
    wholeB ((cellB p pl kd d).take k ++ (cellB p2 pl2 kd2 d2).drop k) = false := by
  obtain ⟨h1, h2⟩ := torn_pass hm hk hk2 (cell_len hm2) (cell_top hm2)
  cases hw : wholeB ((cellB p pl kd d).take k ++ (cellB p2 pl2 kd2 d2).drop k) with
  | false => rfl
  | true =>
    exfalso
    simp only [wholeB, h1, h2, cell_last hm2, Bool.and_eq_true, decide_eq_true_eq] at hw
    obtain ⟨a1, a2, _⟩ := mayC_iff.1 hm
    obtain ⟨b1, b2, _⟩ := mayC_iff.1 hm2
    exact hne (mark_inj ⟨b1, b2⟩ ⟨by omega, a2⟩ (by have := hw.2; omega)).symm
/-- over noughts -/
theorem torn_zero {p pl kd : Int} {d : List UInt8} (hm : mayC p pl kd d.length = true) {k : Nat} (hk2 : k < 64) :
    wholeB ((cellB p pl kd d).take k ++ (List.replicate 64 (0 : UInt8)).drop k) = false := by
  by_cases h0 : k = 0
  · subst h0
    simp only [List.take_zero, List.nil_append, List.drop_zero]
    decide
  · obtain ⟨h1, h2⟩ := torn_pass hm (by omega) hk2 (List.length_replicate (n := 64) (a := (0 : UInt8))) ⟨rfl, rfl, rfl⟩
    cases hw : wholeB ((cellB p pl kd d).take k ++ (List.replicate 64 (0 : UInt8)).drop k) with
    | false => rfl
    | true =>
      exfalso
      have hz : (List.replicate 64 (0 : UInt8)).getD 63 0 = 0 := rfl
      simp only [wholeB, h1, h2, hz, Bool.and_eq_true, decide_eq_true_eq] at hw
      obtain ⟨a1, a2, _⟩ := mayC_iff.1 hm
      have := hw.2
      unfold markB at this
      rw [if_neg (by omega)] at this
      have b := b8_nat p
      have hzz : (0 : UInt8).toNat = 0 := rfl
      omega
end Go.X
namespace Go.X
open Go
theorem rdS_takeB {M : Hp} {A : Option Addr} {l : List UInt8} (h : RdS M A (bv l)) (k : Nat) : RdS M A (bv (l.take k)) := by
  rw [bv_take]
  rcases h with h | ⟨p, hp, h⟩
  · exact .inl (by rw [h, List.take_nil])
  · exact .inr ⟨p, hp, h.take k⟩
/-- the kept cell's data -/
theorem kept {M : Hp} {A : Option Addr} {l : List UInt8} {n k : Nat} (h : RdS M A (bv l)) (hn : n = l.length) (hk : k ≤ n) : ∃ d : List UInt8, k = d.length ∧ RdS M A (bv d) :=
  ⟨l.take k, by rw [List.length_take]; omega, rdS_takeB h k⟩
theorem own_two {z : World} {x y u v : Nat × Obj} {M : Hp} (w : World) (h : Own z w (x :: y :: u :: v :: M)) : Own z w (x :: y :: M) :=
  h.sublist (.cons_cons _ (.cons_cons _ (.cons _ (.cons _ (.refl _)))))
theorem own_two' {z : World} {x y u v : Nat × Obj} {M : Hp} (w : World) (h : Own z w (y :: x :: u :: v :: M)) : Own z w (x :: y :: M) :=
  own_two w (h.perm (List.Perm.swap _ _ _))
end Go.X
namespace Go.X
open Go
theorem turned_fin {p pl kd : Int} {d : List UInt8} (hm : mayC p pl kd d.length = true) {k : Nat} (hk : k < 64) {x : UInt8} {ok : Bool} {e P : Int}
    (hok : ok = wholeB ((cellB p pl kd d).set k ((cellB p pl kd d).getD k 0 ^^^ x)))
    (h : (e = 0 ∧ (ok = true → againB ((cellB p pl kd d).set k ((cellB p pl kd d).getD k 0 ^^^ x)) = (cellB p pl kd d).set k ((cellB p pl kd d).getD k 0 ^^^ x) ∧ mayL ((cellB p pl kd d).set k ((cellB p pl kd d).getD k 0 ^^^ x)) = true ∧ P = (passOf ((cellB p pl kd d).set k ((cellB p pl kd d).getD k 0 ^^^ x)) : Nat))) ∨
      (e = 12 ∧ ok = true ∧ ¬ (mayL ((cellB p pl kd d).set k ((cellB p pl kd d).getD k 0 ^^^ x)) = true ∧ againB ((cellB p pl kd d).set k ((cellB p pl kd d).getD k 0 ^^^ x)) = (cellB p pl kd d).set k ((cellB p pl kd d).getD k 0 ^^^ x)))) :
    ((x.toNat : Int) = 0 ∧ ok = true ∧ e = 0) ∨ ((x.toNat : Int) ≠ 0 ∧ ((ok = false ∧ e = 0) ∨ (ok = true ∧ e = 12))) := by
  by_cases hx : x = 0
  · subst hx
    have e1 : (cellB p pl kd d).set k ((cellB p pl kd d).getD k 0 ^^^ 0) = cellB p pl kd d := by
      rw [UInt8.xor_zero]
      apply List.ext_getElem (by simp)
      intro i h1 h2
      rw [List.getElem_set]
      split
      · rename_i hi; subst hi; simp [List.getD_eq_getElem?_getD, h2]
      · rfl
    rw [e1] at h hok
    refine .inl ⟨rfl, hok.trans (cell_whole hm), ?_⟩
    rcases h with ⟨h, _⟩ | ⟨_, _, h⟩
    · exact h
    · exact absurd ⟨cell_may hm, cell_again hm⟩ h
  · refine .inr ⟨fun h0 => hx (UInt8.toNat_inj.1 (by simpa using h0)), ?_⟩
    cases ok with
    | false => exact .inl ⟨rfl, by rcases h with ⟨h, _⟩ | ⟨_, h, _⟩ <;> first | exact h | cases h⟩
    | true =>
      refine .inr ⟨rfl, ?_⟩
      rcases h with ⟨_, h⟩ | ⟨h, _⟩
      · obtain ⟨h1, h2, _⟩ := h rfl
        exact absurd h1 (cell_turned hm hk (xor8_ne hx) h2)
      · exact h
end Go.X
namespace Go.X
open Go
theorem torn_fin {p pl kd p2 pl2 kd2 : Int} {d d2 : List UInt8} (hm : mayC p pl kd d.length = true) (hm2 : mayC p2 pl2 kd2 d2.length = true) (hne : p ≠ p2) {k : Nat} (hk : k < 64) {zr ok : Bool} {e P : Int} {lz L : List UInt8}
    (hlz : lz = if zr = true then List.replicate 64 (0 : UInt8) else cellB p2 pl2 kd2 d2) (hL : L = (cellB p pl kd d).take k ++ lz.drop k) (hok : ok = wholeB L)
    (h : (e = 0 ∧ (ok = true → againB L = L ∧ mayL L = true ∧ P = (passOf L : Nat))) ∨ (e = 12 ∧ ok = true ∧ ¬ (mayL L = true ∧ againB L = L))) :
    (ok = false ∧ e = 0) ∨ (ok = true ∧ zr = false ∧ e = 0 ∧ P = p2) := by
  cases ok with
  | false => exact .inl ⟨rfl, by rcases h with ⟨h, _⟩ | ⟨_, h, _⟩ <;> first | exact h | cases h⟩
  | true =>
    cases zr with
    | true => rw [if_pos rfl] at hlz; rw [hL, hlz, torn_zero hm hk] at hok; cases hok
    | false =>
      rw [if_neg (by decide)] at hlz
      by_cases h0 : k = 0
      · have e1 : L = cellB p2 pl2 kd2 d2 := by rw [hL, hlz, h0]; simp
        rw [e1] at h
        refine .inr ⟨rfl, rfl, ?_⟩
        rcases h with ⟨h1, h2⟩ | ⟨_, _, h⟩
        · exact ⟨h1, (h2 rfl).2.2.trans (cell_pass hm2)⟩
        · exact absurd ⟨cell_may hm2, cell_again hm2⟩ h
      · rw [hL, hlz, torn_other hm hm2 hne (by omega) hk] at hok; cases hok
theorem lz_len {p2 pl2 kd2 : Int} {d2 lz : List UInt8} (hm2 : mayC p2 pl2 kd2 d2.length = true) {zr : Bool} (hlz : lz = if zr = true then List.replicate 64 (0 : UInt8) else cellB p2 pl2 kd2 d2) : lz.length = 64 := by
  rw [hlz]; split
  · simp
  · exact cell_len hm2
end Go.X
/- Plain words for the log: what Put and Get answer, as one function each; the reference's ways to it. -/
set_option linter.unusedVariables false
set_option linter.unusedSimpArgs false
namespace Go.X
open Go
theorem pb_set {n : Int} {k : Nat} (hk : k < 8) : (pb n k ++ List.replicate (8 - k) 0).set k (byteAt n k) = pb n (k + 1) ++ List.replicate (8 - (k + 1)) 0 := by
  rw [set_append_ge (by simp), pb_len, Nat.sub_self]
  have e : 8 - k = (8 - (k + 1)) + 1 := by omega
  rw [e, List.replicate_succ, List.set_cons_zero, pb, List.append_assoc]
  rfl
def putP (p pl kd : Int) (d : List UInt8) : List UInt8 × Int := if mayC p pl kd d.length = true then (cellB p pl kd d, 0) else ([], 1)
structure GetRes where
  p : Int
  pl : Int
  kd : Int
  d : List UInt8
  ok : Bool
  e : Int
def getP (l : List UInt8) : GetRes :=
  if l.length ≠ 64 then ⟨0, 0, 0, [], false, 1⟩
  else if wholeB l = false then ⟨0, 0, 0, [], false, 0⟩
  else if mayL l = true ∧ againB l = l then ⟨(passOf l : Nat), (plOf l : Nat), (kdOf l : Nat), dOf l, true, 0⟩
  else ⟨0, 0, 0, [], true, 12⟩

theorem get8_head {l : List UInt8} (h : 4 ≤ l.length) : get8 ((l.take 4).drop 0 ++ [0, 0, 0, 0]) 0 = passOf l := by
  match l, h with
  | a :: b :: c :: d :: r, _ =>
    have ha : a.toNat < 256 := UInt8.toNat_lt _
    have hb : b.toNat < 256 := UInt8.toNat_lt _
    have hc : c.toNat < 256 := UInt8.toNat_lt _
    have hd : d.toNat < 256 := UInt8.toNat_lt _
    have hz : (0 : UInt8).toNat = 0 := rfl
    simp only [passOf, get8, getTo, List.take_succ_cons, List.take_zero, List.drop_zero, List.cons_append, List.nil_append, List.getD_cons_zero, List.getD_cons_succ, Nat.zero_add, hz]
    simp only [Nat.reduceMul, Nat.reducePow, Nat.mul_one]
    omega
theorem body_ref {p pl kd : Int} {d : List UInt8} (h : 0 ≤ pl ∧ pl ≤ 4096) :
    ((put8 p).take 4).drop 0 ++ ((put8 pl).take 2).drop 0 ++ [b8 kd, b8 d.length] ++ d ++ List.replicate (48 - d.length) 0 = bodyB p pl kd d := by
  have e : (put8 pl).take 2 = [b8 pl, b8 (pl / 256)] := by simp [put8, pb, byteAt]
  simp only [bodyB, headB, List.drop_zero, e, List.append_assoc, List.cons_append, List.nil_append]
theorem cell_ref {p pl kd : Int} {d : List UInt8} : bodyB p pl kd d ++ ((put8 (sum18 (bodyB p pl kd d) : Nat)).take 4).drop 0 ++ [0, 0, 0, markB p] = cellB p pl kd d := by
  simp only [cellB, List.drop_zero, List.append_assoc]
  rfl
/-- the reference's question: is it not whole? -/
theorem whole_ref (l : List UInt8) : ((decide (((passOf l : Nat) : Int) = 0) || decide (((passOf l : Nat) : Int) > 250)) || decide (((l.getD 63 0).toNat : Int) ≠ ((markB (passOf l : Nat)).toNat : Int))) = !wholeB l := by
  simp only [wholeB]
  by_cases h1 : ((passOf l : Nat) : Int) = 0
  · simp [h1]
  · by_cases h2 : ((passOf l : Nat) : Int) > 250
    · have : ¬ ((passOf l : Nat) : Int) ≤ 250 := by omega
      simp [h1, h2, this]
    · have h3 : (1 : Int) ≤ ((passOf l : Nat) : Int) := by omega
      have h4 : ((passOf l : Nat) : Int) ≤ 250 := by omega
      by_cases h5 : ((l.getD 63 0).toNat : Int) = ((markB (passOf l : Nat)).toNat : Int)
      · simp only [h1, h2, h3, h4, h5]; simp
      · simp only [h1, h2, h3, h4, h5]; simpa using h5
end Go.X
namespace Go.X
open Go
theorem getP_1 {l : List UInt8} (h : l.length ≠ 64) : getP l = ⟨0, 0, 0, [], false, 1⟩ := by rw [getP, if_pos h]
theorem getP_2 {l : List UInt8} (h : l.length = 64) (hw : wholeB l = false) : getP l = ⟨0, 0, 0, [], false, 0⟩ := by rw [getP, if_neg (by omega), if_pos hw]
theorem getP_3 {l : List UInt8} (h : l.length = 64) (hw : wholeB l = true) (hq : ¬ (mayL l = true ∧ againB l = l)) : getP l = ⟨0, 0, 0, [], true, 12⟩ := by
  rw [getP, if_neg (by omega), if_neg (by rw [hw]; decide), if_neg hq]
theorem getP_4 {l : List UInt8} (h : l.length = 64) (hw : wholeB l = true) (hq : mayL l = true ∧ againB l = l) : getP l = ⟨(passOf l : Nat), (plOf l : Nat), (kdOf l : Nat), dOf l, true, 0⟩ := by
  rw [getP, if_neg (by omega), if_neg (by rw [hw]; decide), if_pos hq]
theorem passOf_lt (l : List UInt8) : passOf l < 4294967296 := Nat.mod_lt _ (by decide)
theorem whole_le {l : List UInt8} (h : wholeB l = true) : passOf l ≤ 250 := by
  simp only [wholeB, Bool.and_eq_true, decide_eq_true_eq] at h
  omega
theorem dOf_alt (l : List UInt8) : (l.take (8 + nOf l)).drop 8 = dOf l := by
  rw [List.drop_take, dOf, Nat.add_sub_cancel_left]
theorem putP_yes {p pl kd : Int} {d : List UInt8} (h : mayC p pl kd d.length = true) : putP p pl kd d = (cellB p pl kd d, 0) := by rw [putP, if_pos h]
theorem putP_no {p pl kd : Int} {d : List UInt8} (h : mayC p pl kd d.length = false) : putP p pl kd d = ([], 1) := by rw [putP, if_neg (by rw [h]; decide)]
theorem putP_iff {l : List UInt8} (hl : l.length = 64) : ((putP (passOf l : Nat) (plOf l : Nat) (kdOf l : Nat) (dOf l)).2 = 0 ∧ (putP (passOf l : Nat) (plOf l : Nat) (kdOf l : Nat) (dOf l)).1 = l) ↔ (mayL l = true ∧ againB l = l) := by
  have e : mayL l = mayC (passOf l : Nat) (plOf l : Nat) (kdOf l : Nat) (dOf l).length := by rw [dOf_len hl]; rfl
  rw [e]
  cases h : mayC (passOf l : Nat) (plOf l : Nat) (kdOf l : Nat) (dOf l).length with
  | true => rw [putP_yes h]; simp [againB]
  | false => rw [putP_no h]; simp
end Go.X
/- The engine: functions and nil. -/
set_option linter.unusedVariables false
set_option linter.unusedSimpArgs false
namespace Go.X
open Go Go.RowKit
section
variable {P : Program} {N : Nat} {z : World} {E : Env} {M : Hp}
variable {dst : Option Tmp} {ty : TypeId} {pos : String} {af : Array Edge} {gu : Option (Nat × Bool)} {t yt : TypeId} {x y : Operand}
def fnQ (P : Program) (t : TypeId) : Bool := match P.underlying t with | some (.func _ _ _) => true | _ => false
theorem fnQ_spec {t : TypeId} (h : fnQ P t = true) : ∃ a b c, P.underlying t = some (.func a b c) := by
  unfold fnQ at h; split at h
  · rename_i a b c he; exact ⟨a, b, c, he⟩
  · cases h
theorem Val.neqNilF (hx : ev E x = some .nilFunc) (hy : ev E y = some .nilFunc) (ht : fnQ P t = true) : Val P N z E M ⟨dst, .binOp .neq t x y yt, ty, pos, af, gu⟩ (.bool false) := fun a w ha hw => by
  obtain ⟨p, q, r, ht⟩ := fnQ_spec ht
  have hq : eqGuard .neq t x y .nilFunc .nilFunc = pure () := rfl
  have he : (Op.equal t .nilFunc .nilFunc).run P w = .ok true w := by
    show (Op.equalIn (9999 + 1) t _ _).run P w = _
    unfold Op.equalIn
    simp only [Sem.run_bind, run_underlying ht, Result.andThen, Sem.run_pure]
  simp only [execOp, ha.ev hx, ha.ev hy, hq, binOp, Sem.run_bind, Sem.run_pure, he, Result.andThen]
  rfl
theorem Val.neqFun {f : Go.Fn} {u v : Array Value} (hx : ev E x = some (.func f u v)) (hy : ev E y = some .nilFunc) (ht : fnQ P t = true) : Val P N z E M ⟨dst, .binOp .neq t x y yt, ty, pos, af, gu⟩ (.bool true) := fun a w ha hw => by
  obtain ⟨p, q, r, ht⟩ := fnQ_spec ht
  have hq : eqGuard .neq t x y (.func f u v) .nilFunc = pure () := rfl
  have he : (Op.equal t (.func f u v) .nilFunc).run P w = .ok false w := by
    show (Op.equalIn (9999 + 1) t _ _).run P w = _
    unfold Op.equalIn
    simp only [Sem.run_bind, run_underlying ht, Result.andThen, Sem.run_pure]
  simp only [execOp, ha.ev hx, ha.ev hy, hq, binOp, Sem.run_bind, Sem.run_pure, he, Result.andThen]
  rfl
end
end Go.X
/- The engine: structs that are compared. -/
set_option linter.unusedVariables false
set_option linter.unusedSimpArgs false
namespace Go.X
open Go Go.RowKit
/-- What comes of comparing two values of a type, n deep at most. -/
def EqV (P : Program) (n : Nat) (t : TypeId) (a b : Value) (r : Bool) : Prop := ∀ d w, (Op.equalIn (d + n) t a b).run P w = .ok r w
/-- What comes of comparing the fields from number i on. -/
def EqI (P : Program) (n : Nat) (t : TypeId) (xs ys : Array Value) (i : Nat) (r : Bool) : Prop := ∀ d w, (Op.eqFields (d + n) xs ys ((P.fieldsOf t).toList.drop i)).run P w = .ok r w
def namesQ (P : Program) (t : TypeId) : Bool := (P.fieldsOf t).toList.all (fun f => f.name != "_")
def strQ (P : Program) (t : TypeId) : Bool := match P.underlying t with | some (.struct _) => !(P.stoodInHeld t) | _ => false
section
variable {P : Program} {N : Nat} {z : World} {E : Env} {M : Hp}
variable {dst : Option Tmp} {ty : TypeId} {pos : String} {af : Array Edge} {gu : Option (Nat × Bool)} {t yt : TypeId} {x y : Operand}
theorem EqV.int {n : Nat} {k k' : IntKind} {a b : Int} (h : intQ P t = some k') : EqV P (n + 1) t (.int k a) (.int k b) (decide (a = b)) := fun d w => by
  rw [← Nat.add_assoc, run_equalIn_int w (d + n) t k k' a b (intQ_spec h)]
  rfl
theorem EqV.bool {n : Nat} {a b : Bool} (h : P.underlying t = some .bool) : EqV P (n + 1) t (.bool a) (.bool b) (a == b) := fun d w => by
  rw [← Nat.add_assoc]
  exact run_equalIn_bool' w (d + n) t a b h
theorem fldQ_fs {t : TypeId} {i off : Nat} {ft : TypeId} (h : fldQ P t i = some (off, ft)) : ∃ f : Field, (P.fieldsOf t).toList[i]? = some f ∧ f.offset = off ∧ f.type = ft := by
  unfold fldQ at h
  split at h
  · rename_i fs hfs
    simp only [Option.map_eq_some_iff] at h
    obtain ⟨f, h1, h2⟩ := h
    cases h2
    exact ⟨f, by rw [Program.fieldsOf]; simp only [hfs]; simpa using h1, rfl, rfl⟩
  · cases h
theorem EqI.done {n : Nat} {xs ys : Array Value} {i : Nat} (h : (P.fieldsOf t).size ≤ i) : EqI P n t xs ys i true := fun d w => by
  rw [List.drop_eq_nil_of_le (by simpa using h)]
  simp [Op.eqFields]
theorem EqI.cons {n : Nat} {xs ys : Array Value} {i off : Nat} {ft : TypeId} {a b : Value} {r1 r2 : Bool} (hf : fldQ P t i = some (off, ft)) (hn : namesQ P t = true) (ha : aggQ P ft = some false) (hx : nth xs.toList off = some a) (hy : nth ys.toList off = some b)
    (h : EqV P n ft a b r1) (k : EqI P n t xs ys (i + 1) r2) : EqI P n t xs ys i (r1 && r2) := fun d w => by
  obtain ⟨f, h1, h2, h3⟩ := fldQ_fs hf
  have hlt : i < (P.fieldsOf t).toList.length := (List.getElem?_eq_some_iff.1 h1).1
  have he : (P.fieldsOf t).toList.drop i = f :: (P.fieldsOf t).toList.drop (i + 1) := by
    rw [List.drop_eq_getElem_cons hlt]
    congr 1
    exact (List.getElem?_eq_some_iff.1 h1).2
  have hne : f.name ≠ "_" := by
    have := List.all_eq_true.1 hn f (List.mem_of_getElem? h1)
    simpa using this
  rw [nth_eq, Array.getElem?_toList] at hx hy
  have p1 : (part f.type xs f.offset).run P w = .ok a w := by
    rw [h2, h3]; simp [part, run_isAgg ha, Result.andThen, hx]
  have p2 : (part f.type ys f.offset).run P w = .ok b w := by
    rw [h2, h3]; simp [part, run_isAgg ha, Result.andThen, hy]
  rw [he]
  simp only [Op.eqFields, hne, ne_eq, not_false_eq_true, if_true, Sem.run_bind, p1, p2, Result.andThen_ok]
  rw [h3, h d w]
  simp only [Result.andThen_ok]
  cases r1
  · simp
  · simpa using k d w
theorem EqV.struct {n : Nat} {xs ys : Array Value} {r : Bool} (hs : strQ P t = true) (h : EqI P n t xs ys 0 r) : EqV P (n + 1) t (.agg xs) (.agg ys) r := fun d w => by
  unfold strQ at hs
  split at hs
  · rename_i fs hfs
    have e : P.fieldsOf t = fs := by simp [Program.fieldsOf, hfs]
    rw [← Nat.add_assoc, run_equalIn_struct w (d + n) t xs ys (by rw [e]; exact hfs) (by simpa using hs)]
    have := h d w
    rwa [List.drop_zero] at this
  · cases hs
theorem Val.eqlG {n : Nat} {xs ys : Array Value} {b : Bool} (hx : ev E x = some (.agg xs)) (hy : ev E y = some (.agg ys)) (he : P.eqGuardType P.depth t = false) (h : EqV P n t (.agg xs) (.agg ys) b) (hn : n ≤ 10000) :
    Val P N z E M ⟨dst, .binOp .eql t x y yt, ty, pos, af, gu⟩ (.bool b) := fun a w ha hw => by
  have hq : (eqGuard .eql t x y (.agg xs) (.agg ys)).run P w = .ok () w := by
    simp [eqGuard, he]
  have h2 : (Op.equal t (.agg xs) (.agg ys)).run P w = .ok b w := by
    have := h (10000 - n) w
    rw [show 10000 - n + n = 10000 by omega] at this
    exact this
  simp only [execOp, ha.ev hx, ha.ev hy, hq, binOp, Sem.run_bind, Sem.run_pure, h2, Result.andThen]
theorem Val.neqG {n : Nat} {xs ys : Array Value} {b : Bool} (hx : ev E x = some (.agg xs)) (hy : ev E y = some (.agg ys)) (he : P.eqGuardType P.depth t = false) (h : EqV P n t (.agg xs) (.agg ys) b) (hn : n ≤ 10000) :
    Val P N z E M ⟨dst, .binOp .neq t x y yt, ty, pos, af, gu⟩ (.bool (!b)) := fun a w ha hw => by
  have hq : (eqGuard .neq t x y (.agg xs) (.agg ys)).run P w = .ok () w := by
    simp [eqGuard, he]
  have h2 : (Op.equal t (.agg xs) (.agg ys)).run P w = .ok b w := by
    have := h (10000 - n) w
    rw [show 10000 - n + n = 10000 by omega] at this
    exact this
  simp only [execOp, ha.ev hx, ha.ev hy, hq, binOp, Sem.run_bind, Sem.run_pure, h2, Result.andThen]
end
end Go.X
/- The engine: short forms. -/
set_option linter.unusedVariables false
namespace Go.X
open Go Go.RowKit
/-- fewer blocks, in the same order -/
theorem ro_s {z : World} {M M' : Hp} (h : List.Sublist M' M := by repeat (first | exact List.Sublist.refl _ | exact List.nil_sublist _ | refine List.Sublist.cons_cons _ ?_ | refine List.Sublist.cons _ ?_ | refine List.Sublist.append (List.Sublist.refl _) ?_ | refine List.sublist_append_of_sublist_right ?_)) : ∀ w, Own z w M → Own z w M' := fun w o => o.sublist h
section
variable {P : Program} {N : Nat} {z : World} {Q : Exit → Act → World → Prop} {E : Env} {M : Hp} {ops : Array Oper} {rest : List Oper}
theorem TL.v {o : Oper} {d : Nat} {v : Value} (h : Val P N z E M o v) (k : TL P N z ops Q rest ((d, v) :: E) M) (hg : o.guard = none := by exact rfl) (hd : o.dst = some d := by exact rfl) (hN : d < N := by exact Nat.le_of_ble_eq_true rfl) : TL P N z ops Q (o :: rest) E M :=
  TL.val hg hd hN h k
theorem TL.vy {o : Oper} {d j dj : Nat} {want : Bool} {v : Value} (h : Val P N z E M o v) (k : TL P N z ops Q rest ((d, v) :: E) M) (hg : o.guard = some (j, want) := by exact rfl) (hd : o.dst = some d := by exact rfl) (hN : d < N := by exact Nat.le_of_ble_eq_true rfl)
    (hj : (ops[j]?).bind (·.dst) = some dj := by exact rfl) (hM : dj < N := by exact Nat.le_of_ble_eq_true rfl) (hb : look E dj = some (.bool want) := by exact rfl) : TL P N z ops Q (o :: rest) E M :=
  TL.valYes hg hd hN hj hM hb h k
theorem TL.gv {o : Oper} {d j dj : Nat} {want g : Bool} {v : Value} (hg : o.guard = some (j, want)) (hj : (ops[j]?).bind (·.dst) = some dj) (hb : look E dj = some (.bool g)) (h : g = want → Val P N z E M o v) (k : TL P N z ops Q rest ((d, gd g want v) :: E) M) (hd : o.dst = some d := by exact rfl) (hN : d < N := by exact Nat.le_of_ble_eq_true rfl)
    (hM : dj < N := by exact Nat.le_of_ble_eq_true rfl) : TL P N z ops Q (o :: rest) E M :=
  TL.gval hg hd hN hj hM hb h k
theorem TL.pa {o : Oper} {d j dj : Nat} {want b : Bool} (k : TL P N z ops Q rest ((d, undef) :: E) M) (hg : o.guard = some (j, want) := by exact rfl) (hd : o.dst = some d := by exact rfl) (hN : d < N := by exact Nat.le_of_ble_eq_true rfl) (hj : (ops[j]?).bind (·.dst) = some dj := by exact rfl) (hM : dj < N := by exact Nat.le_of_ble_eq_true rfl)
    (hb : look E dj = some (.bool b) := by exact rfl) (hne : (b == want) = false := by exact rfl) : TL P N z ops Q (o :: rest) E M := TL.pass hg hd hN hj hM hb hne k
theorem TL.pu {o : Oper} {d j dj : Nat} {want : Bool} (k : TL P N z ops Q rest ((d, undef) :: E) M) (hg : o.guard = some (j, want) := by exact rfl) (hd : o.dst = some d := by exact rfl) (hN : d < N := by exact Nat.le_of_ble_eq_true rfl) (hj : (ops[j]?).bind (·.dst) = some dj := by exact rfl) (hM : dj < N := by exact Nat.le_of_ble_eq_true rfl)
    (hb : look E dj = some undef := by exact rfl) : TL P N z ops Q (o :: rest) E M := TL.passU hg hd hN hj hM hb k
theorem TL.pn {o : Oper} {j dj : Nat} {want b : Bool} (k : TL P N z ops Q rest E M) (hg : o.guard = some (j, want) := by exact rfl) (hd : o.dst = none := by exact rfl) (hj : (ops[j]?).bind (·.dst) = some dj := by exact rfl) (hM : dj < N := by exact Nat.le_of_ble_eq_true rfl)
    (hb : look E dj = some (.bool b) := by exact rfl) (hne : (b == want) = false := by exact rfl) : TL P N z ops Q (o :: rest) E M := TL.passNone hg hd hj hM hb hne k
theorem TL.d {o : Oper} {R : Value → Hp → Prop} {d : Option Nat} (h : Does P N z E M o R) (k : ∀ v M', R v M' → TL P N z ops Q rest (putE d v E) M') (hd : o.dst = d := by exact rfl) (hg : o.guard = none := by exact rfl) (hN : ltN d N = true := by exact rfl) : TL P N z ops Q (o :: rest) E M :=
  TL.does d hd hg hN h k
theorem TL.dy {o : Oper} {R : Value → Hp → Prop} {d : Option Nat} {j dj : Nat} {want : Bool} (h : Does P N z E M o R) (k : ∀ v M', R v M' → TL P N z ops Q rest (putE d v E) M') (hd : o.dst = d := by exact rfl) (hg : o.guard = some (j, want) := by exact rfl) (hj : (ops[j]?).bind (·.dst) = some dj := by exact rfl)
    (hM : dj < N := by exact Nat.le_of_ble_eq_true rfl) (hb : look E dj = some (.bool want) := by exact rfl) (hN : ltN d N = true := by exact rfl) : TL P N z ops Q (o :: rest) E M :=
  TL.doesYes d hd hg hj hM hb hN h k
theorem TC.en {c : Code} {E' : Env} (h : TC P N z Q c E' M) (hE : Sub E' E := by repeat (first | exact Go.X.Sub.nil _ | refine Go.X.Sub.cons rfl ?_)) : TC P N z Q c E M := TC.env hE h
/-- behind the last operation of a region: the code that follows -/
theorem TL.nt {y : Code} (h : TC P N z Q y E M) : TL P N z ops (Exit.then (y.wp P Q) Q) [] E M := TL.nil (AtX.then h)
theorem TC.sr {id : Nat} {l : List Oper} {y : Code} (h : TL P N z l.toArray (Exit.then (y.wp P Q) Q) l E M) : TC P N z Q (.seq (.region id l.toArray false) y) E M := TC.seq (TC.region h)
theorem TC.r1 {fn : Func} {R : Value → Hp → Prop} {r1 : ResultVar} {v1 : Value} {M' : Hp} (hQ : ∀ a w, FnQ P fn z R .ret a w → Q .ret a w) (hf : fn.results = #[r1]) (h1 : RV P N E M r1 v1) (hR : R v1 M') (hM : ∀ w, Own z w M → Own z w M' := by exact Go.X.ro_s) : TC P N z Q .ret E M :=
  TC.ret1 hQ hf h1 hM hR
theorem TC.r2 {fn : Func} {R : Value → Hp → Prop} {r1 r2 : ResultVar} {v1 v2 : Value} {M' : Hp} (hQ : ∀ a w, FnQ P fn z R .ret a w → Q .ret a w) (hf : fn.results = #[r1, r2]) (h1 : RV P N E M r1 v1) (h2 : RV P N E M r2 v2) (hR : R (.tuple #[v1, v2]) M') (hM : ∀ w, Own z w M → Own z w M' := by exact Go.X.ro_s) : TC P N z Q .ret E M :=
  TC.ret2 hQ hf h1 h2 hM hR
end
end Go.X
/- The engine: blocks in any order. -/
set_option linter.unusedVariables false
namespace Go.X
open Go Go.RowKit
/-- Heaps up to order. -/
def HQ : Type := Quotient (List.isSetoid (Nat × Obj))
def toQ (M : Hp) : HQ := Quotient.mk (List.isSetoid (Nat × Obj)) M
def HQ.add (a b : HQ) : HQ := Quotient.lift₂ (fun x y => toQ (x ++ y)) (fun _ _ _ _ h1 h2 => Quotient.sound (List.Perm.append h1 h2)) a b
instance : Add HQ := ⟨HQ.add⟩
instance : Std.Associative (α := HQ) (· + ·) := ⟨fun a b c => by
  induction a using Quotient.ind
  induction b using Quotient.ind
  induction c using Quotient.ind
  exact congrArg toQ (List.append_assoc _ _ _)⟩
instance : Std.Commutative (α := HQ) (· + ·) := ⟨fun a b => by
  induction a using Quotient.ind
  induction b using Quotient.ind
  exact Quotient.sound List.perm_append_comm⟩
def q1 (x : Nat × Obj) : HQ := toQ [x]
theorem toQ_app (L M : Hp) : toQ (L ++ M) = toQ L + toQ M := rfl
theorem toQ_cm (x : Nat × Obj) (M : Hp) : toQ (x :: M) = q1 x + toQ M := rfl
theorem q_zero (a : HQ) : a + toQ [] = a := by
  induction a using Quotient.ind
  exact congrArg toQ (List.append_nil _)
theorem zero_q (a : HQ) : toQ [] + a = a := by
  induction a using Quotient.ind
  rfl
/-- the same blocks in another order -/
theorem ro_ac {z : World} {M M' : Hp} (h : toQ M' = toQ M := by simp only [Go.X.toQ_cm, Go.X.toQ_app, Go.X.q_zero, Go.X.zero_q]; try ac_rfl) : ∀ w, Own z w M → Own z w M' := fun w o => o.perm (Quotient.exact h).symm
theorem Own.ac {z w : World} {M M' : Hp} (o : Own z w M) (h : toQ M' = toQ M := by simp only [Go.X.toQ_cm, Go.X.toQ_app, Go.X.q_zero, Go.X.zero_q]; try ac_rfl) : Own z w M' := o.perm (Quotient.exact h).symm
end Go.X
/- Plain words for what was said and kept. -/
set_option linter.unusedVariables false
set_option linter.unusedSimpArgs false
namespace Go.X
open Go Go.RowKit
def sameS (x : Smp) (k me e : Int) : Bool := (decide (x.who = k) && decide (x.metric = me)) && decide (x.epoch = e)
theorem any_t {f : Smp → Bool} {kept : List Smp} {j : Nat} {x : Smp} (hx : kept[j]? = some x) (c : f x = true) : decide ((0 : Int) ≤ ((j : Nat) : Int)) = kept.any f := by
  have h : kept.any f = true := List.any_eq_true.2 ⟨x, List.mem_of_getElem? hx, c⟩
  rw [h]; simp
theorem any_f {f : Smp → Bool} {kept : List Smp} {j : Nat} (h : ∀ x ∈ kept.take j, f x = false) (hj : j = kept.length) : decide ((0 : Int) ≤ -1) = kept.any f := by
  subst hj
  rw [List.take_length] at h
  have h : kept.any f = false := List.any_eq_false.2 (fun x hx => by simp [h x hx])
  rw [h]; rfl
theorem take_no {f : Smp → Bool} {kept : List Smp} {j : Nat} {x : Smp} (h : ∀ x ∈ kept.take j, f x = false) (hx : kept[j]? = some x) (c : f x = false) : ∀ x ∈ kept.take (j + 1), f x = false := fun y hy => by
  rw [List.take_add_one, hx] at hy
  rcases List.mem_append.1 hy with h1 | h1
  · exact h y h1
  · simp at h1; subst h1; exact c
theorem one_smp (x : Smp) : ∀ u ∈ x.cs, one u = true := by intro u hu; simp at hu; rcases hu with rfl | rfl | rfl | rfl <;> rfl
def selS (x : Smp) (w me e : Int) (bad : Bool) : Bool := ((decide (x.who = w) && !bad) && decide (x.epoch = e)) && decide (x.metric = me)
/-- of one collector, the values kept among the first j -/
def honIn (kept : List Smp) (w me e : Int) (bad : Bool) : Nat → List Int
  | 0 => []
  | j + 1 => honIn kept w me e bad j ++ (match kept[j]? with | some x => if selS x w me e bad = true then [x.value] else [] | none => [])
def honTo (l : List Bool) (kept : List Smp) (me e : Int) : Nat → List Int
  | 0 => []
  | w + 1 => honTo l kept me e w ++ honIn kept (w : Nat) me e (l.getD w false) kept.length
def hon (l : List Bool) (kept : List Smp) (me e : Int) : List Int := honTo l kept me e l.length
theorem hon_t {kept : List Smp} {w me e : Int} {bad : Bool} {j : Nat} {x : Smp} (hx : kept[j]? = some x) (c : selS x w me e bad = true) : honIn kept w me e bad (j + 1) = honIn kept w me e bad j ++ [x.value] := by simp [honIn, hx, c]
theorem hon_f {kept : List Smp} {w me e : Int} {bad : Bool} {j : Nat} {x : Smp} (hx : kept[j]? = some x) (c : selS x w me e bad = false) : honIn kept w me e bad (j + 1) = honIn kept w me e bad j := by simp [honIn, hx, c]
theorem hon_S {l : List Bool} {kept : List Smp} {me e : Int} {w : Nat} {y : Bool} (hy : l[w]? = some y) : honTo l kept me e (w + 1) = honTo l kept me e w ++ honIn kept (w : Nat) me e y kept.length := by
  simp [honTo, List.getD_eq_getElem?_getD, hy]
theorem honIn_le (kept : List Smp) (w me e : Int) (bad : Bool) : ∀ j, (honIn kept w me e bad j).length ≤ j
  | 0 => by simp [honIn]
  | j + 1 => by
    have := honIn_le kept w me e bad j
    simp only [honIn, List.length_append]
    split
    · split <;> simp <;> omega
    · simp; omega
theorem honTo_le (l : List Bool) (kept : List Smp) (me e : Int) : ∀ w, (honTo l kept me e w).length ≤ w * kept.length
  | 0 => by simp [honTo]
  | w + 1 => by
    have h1 := honTo_le l kept me e w
    have h2 := honIn_le kept (w : Nat) me e (l.getD w false) kept.length
    simp only [honTo, List.length_append, Nat.add_mul]; omega
end Go.X
namespace Go.X
theorem ss4 {ss : List Sr} (h : ss.length = 4) (hw : ∀ (k : Nat) (r : Sr), ss[k]? = some r → r.w = k ∧ r.g = 0 ∧ r.q = 0) : ∃ s0 s1 s2 s3 : Nat, ss = [⟨s0, 0, 0, 0⟩, ⟨s1, 1, 0, 0⟩, ⟨s2, 2, 0, 0⟩, ⟨s3, 3, 0, 0⟩] := by
  match ss, h with
  | [⟨a0, w0, g0, q0⟩, ⟨a1, w1, g1, q1⟩, ⟨a2, w2, g2, q2⟩, ⟨a3, w3, g3, q3⟩], _ =>
    obtain ⟨e0, f0, j0⟩ := hw 0 _ rfl
    obtain ⟨e1, f1, j1⟩ := hw 1 _ rfl
    obtain ⟨e2, f2, j2⟩ := hw 2 _ rfl
    obtain ⟨e3, f3, j3⟩ := hw 3 _ rfl
    simp only at e0 f0 j0 e1 f1 j1 e2 f2 j2 e3 f3 j3
    subst e0 f0 j0 e1 f1 j1 e2 f2 j2 e3 f3 j3
    exact ⟨a0, a1, a2, a3, rfl⟩
end Go.X
/- The engine: slices of records that came in; what a contract leaves, in another order. -/
set_option linter.unusedVariables false
set_option linter.unusedSimpArgs false
namespace Go.X
open Go Go.RowKit
theorem FnC.post {P : Program} {f : FuncId} {args : Array Value} {M : Hp} {R R' : Value → Hp → Prop} (h : FnC P f args M R) (hr : ∀ v M1, R v M1 → ∃ M2, R' v M2 ∧ ∀ z w, Own z w M1 → Own z w M2) : FnC P f args M R' := fun z w hw =>
  (h z w hw).mono fun _ _ ⟨v, M1, he, hR, ho⟩ => by
    obtain ⟨M2, h1, h2⟩ := hr _ _ hR
    exact ⟨v, M2, he, h1, h2 _ _ ho⟩
theorem fits_recs {W : World} {e : Sh} {sz : Nat} {cs : List Value} (hsz : 0 < sz) (h : Fits W (.sl sz e) cs) : ∃ (a : Option Addr) (xs : List (List Value)) (cap : Nat), cs = [.slice a xs.length cap] ∧ xs.length ≤ cap ∧ cap ≤ maxLen ∧ RdS (allHp W) a xs.flatten ∧ ∀ x ∈ xs, x.length = sz ∧ Fits W e x := by
  rcases h with rfl | ⟨a, len, cap, rfl, hl, hm, hc⟩
  · exact ⟨none, [], 0, rfl, Nat.le_refl _, by unfold maxLen; omega, .inl rfl, by simp⟩
  · let f : Nat → List Value := fun i => if h : i < len then Classical.choose (hc i h) else []
    have hf : ∀ i, i < len → W.cells? 0 (a.add (i * sz)) sz = some (f i) ∧ Fits W e (f i) := fun i hi => by
      have e : f i = Classical.choose (hc i hi) := dif_pos hi
      rw [e]
      exact Classical.choose_spec (hc i hi)
    have hlen : ∀ i, i < len → (f i).length = sz := fun i hi => (cells?_get (hf i hi).1).1
    have hflat : ∀ n, n ≤ len → ((List.range n).map f).flatten.length = n * sz ∧ ∀ i v, ((List.range n).map f).flatten[i]? = some v → W.cell? (a.add i) = some v := by
      intro n
      induction n with
      | zero => intro _; simp
      | succ n ih =>
        intro hn
        obtain ⟨h1, h2⟩ := ih (by omega)
        have hfn := hlen n (by omega)
        rw [List.range_succ, List.map_append, List.flatten_append]
        refine ⟨by simp [h1, hfn, Nat.add_mul], fun i v hv => ?_⟩
        by_cases hi : i < n * sz
        · rw [List.getElem?_append_left (by omega)] at hv
          exact h2 i v hv
        · rw [List.getElem?_append_right (by omega), h1] at hv
          simp at hv
          have := (cells?_get (hf n (by omega)).1).2 (i - n * sz) v hv
          rw [Addr.add_add] at this
          rw [show n * sz + (i - n * sz) = i by omega] at this
          exact this
    refine ⟨some a, (List.range len).map f, cap, by simp, by simpa using hl, hm, rdS_cells fun i v hv => (hflat len (Nat.le_refl _)).2 i v hv, fun x hx => ?_⟩
    obtain ⟨i, hi, rfl⟩ := List.mem_map.1 hx
    have hi := List.mem_range.1 hi
    exact ⟨hlen i hi, (hf i hi).2⟩
end Go.X
/- Plain words: how many are bad, and in which order they are told. -/
set_option linter.unusedVariables false
set_option linter.unusedSimpArgs false
namespace Go.X
open Go Go.RowKit
theorem badTo_count (l : List Bool) : ∀ n, n ≤ l.length → (badTo l n).length = (l.take n).count true
  | 0, _ => by simp [badTo]
  | n + 1, h => by
    have ih := badTo_count l n (by omega)
    have hx : l[n]? = some l[n] := List.getElem?_eq_getElem (by omega)
    rw [List.take_add_one, hx, List.count_append, ← ih]
    cases hb : l[n] with
    | true => rw [badTo_t (x := true) (by rw [hx, hb]) rfl]; simp
    | false => rw [badTo_f (x := false) (by rw [hx, hb]) rfl]; simp
theorem bads_count (l : List Bool) : (bads l).length = l.count true := by
  rw [bads, badTo_count l _ (Nat.le_refl _), List.take_length]
theorem bads_set {l : List Bool} {k : Nat} (h : l[k]? = some false) : (bads (l.set k true)).length = (bads l).length + 1 := by
  obtain ⟨hk, hv⟩ := List.getElem?_eq_some_iff.1 h
  rw [bads_count, bads_count, List.set_eq_take_append_cons_drop, if_pos hk, List.count_append, List.count_cons]
  have e : l = l.take k ++ false :: l.drop (k + 1) := by
    rw [← hv, ← List.drop_eq_getElem_cons hk, List.take_append_drop]
  have e2 : l.count true = (l.take k).count true + (l.drop (k + 1)).count true := by
    conv => lhs; rw [e]
    rw [List.count_append, List.count_cons]; simp
  rw [e2]; simp; omega
theorem set_same {l : List Bool} {k : Nat} (h : l[k]? = some true) : l.set k true = l := by
  obtain ⟨hk, hv⟩ := List.getElem?_eq_some_iff.1 h
  conv => lhs; rw [← hv]
  exact List.set_getElem_self hk
theorem badTo_mem {l : List Bool} : ∀ {n : Nat} {x : Int}, x ∈ badTo l n → ∃ q : Nat, x = q ∧ q < n ∧ l.getD q false = true
  | 0, x, h => by simp [badTo] at h
  | n + 1, x, h => by
    simp only [badTo, List.mem_append] at h
    rcases h with h | h
    · obtain ⟨q, h1, h2, h3⟩ := badTo_mem h
      exact ⟨q, h1, by omega, h3⟩
    · split at h
      · simp at h; exact ⟨n, h, by omega, by assumption⟩
      · simp at h
theorem badTo_sorted (l : List Bool) : ∀ n, (badTo l n).Pairwise (· < ·)
  | 0 => by simp [badTo]
  | n + 1 => by
    simp only [badTo]
    refine List.pairwise_append.2 ⟨badTo_sorted l n, by split <;> simp, fun x hx y hy => ?_⟩
    obtain ⟨q, h1, h2, _⟩ := badTo_mem hx
    split at hy
    · simp at hy; omega
    · simp at hy
theorem bads_get {l : List Bool} {j : Nat} {x : Int} (h : (bads l)[j]? = some x) : ∃ q : Nat, x = q ∧ q < l.length ∧ l[q]? = some true := by
  obtain ⟨q, h1, h2, h3⟩ := badTo_mem (List.mem_of_getElem? h)
  refine ⟨q, h1, h2, ?_⟩
  rw [List.getD_eq_getElem?_getD, List.getElem?_eq_getElem h2] at h3
  rw [List.getElem?_eq_getElem h2]
  simpa using h3
theorem bads_lt {l : List Bool} {i j : Nat} {x y : Int} (hij : i < j) (hx : (bads l)[i]? = some x) (hy : (bads l)[j]? = some y) : x < y := by
  obtain ⟨h1, rfl⟩ := List.getElem?_eq_some_iff.1 hx
  obtain ⟨h2, rfl⟩ := List.getElem?_eq_some_iff.1 hy
  exact List.pairwise_iff_getElem.1 (badTo_sorted l l.length) i j h1 h2 hij
theorem hp_self {H : Hp} {j : Nat} {x : Nat × Obj} (h : H[j]? = some x) : H.set j x = H := by
  obtain ⟨hk, hv⟩ := List.getElem?_eq_some_iff.1 h
  rw [← hv]
  exact List.set_getElem_self hk
theorem ro_keep2 {z : World} {a b c x : Nat × Obj} {L M : Hp} : ∀ w, Own z w (a :: b :: c :: (L ++ x :: M)) → Own z w (x :: a :: b :: M) := fun w h => by
  have h1 : Own z w ([x] ++ ((a :: b :: c :: L) ++ M)) := ro_mv (A := a :: b :: c :: L) (L := [x]) w h
  refine h1.sublist ?_
  simp only [List.cons_append, List.nil_append]
  exact ((((List.sublist_append_right L M).cons c).cons_cons b).cons_cons a).cons_cons x
theorem bads_0 (n : Nat) : (bads (List.replicate n false)).length = 0 := by rw [bads_count, List.count_eq_zero]; simp
theorem ro_d4 {z : World} {a b c d : Nat × Obj} {L M : Hp} : ∀ w, Own z w (a :: b :: c :: d :: (L ++ M)) → Own z w (a :: b :: c :: d :: M) := fun w h =>
  h.sublist ((((List.sublist_append_right L M).cons_cons d).cons_cons c).cons_cons b |>.cons_cons a)
theorem pad_get {l : List Bool} {k n : Nat} {y : Bool} (h : l[k]? = some y) : (l ++ List.replicate n false)[k]? = some y := by
  rw [List.getElem?_append_left (List.getElem?_eq_some_iff.1 h).1]; exact h
theorem pad_set {l : List Bool} {k n : Nat} (h : k < l.length) : (l ++ List.replicate n false).set k true = l.set k true ++ List.replicate n false := by
  rw [List.set_append_left _ _ h]
end Go.X
/- Plain words: what is made of numbers may be so. -/
namespace Go.X
theorem fit_n {a0 a1 : Int} (h1 : 0 ≤ a0) (h2 : a0 < 3) (h3 : 0 ≤ a1) (h4 : a1 < 4) : 1 ≤ 3 * a0 + 1 + a1 ∧ 3 * a0 + 1 + a1 ≤ 16 := by omega
theorem fit_s {a k n : Int} (h1 : 0 ≤ a) (h2 : a < k) (h : k ≤ n) : 1 ≤ 1 + a ∧ 1 + a ≤ n := by omega
theorem fit_z {a k n : Int} (h1 : 0 ≤ a) (h2 : a < k) (h : k ≤ n) : 0 ≤ a ∧ a ≤ n := by omega
theorem fit_sec {a : Int} (h1 : 0 ≤ a) (h2 : a < 300) : 64 ≤ 64 + a ∧ 64 + a ≤ 4096 := by omega
theorem fit_f {a0 a1 : Int} (h1 : 0 ≤ a0) (h3 : 0 ≤ a1) : 0 ≤ a0 ∧ 3 * a0 + 1 ≤ 3 * a0 + 1 + a1 := by omega
theorem fit_q {a0 a1 a3 : Int} (h1 : 0 ≤ a3) (h2 : a3 < 3 * a0 + 1 + a1 - 2 * a0) : 2 * a0 + 1 ≤ 2 * a0 + 1 + a3 ∧ 2 * a0 + 1 + a3 ≤ 3 * a0 + 1 + a1 := by omega
theorem fit_max {a c : Int} (h1 : 0 ≤ a) (h2 : a < 5) (h3 : 0 ≤ c) (h4 : c < 60) : 1 + a ≤ 1 + a + c ∧ 1 + a + c ≤ 10000 := by omega
theorem fit_t0 {T a : Int} (h : 1 ≤ T ∧ T ≤ 2000) (h1 : 0 ≤ a) : (0 < 1 + a → 1 ≤ T ∧ T ≤ 1099511627776) ∧ (1 + a ≤ 0 → T = 0) := by omega
theorem fit_t1 {T a : Int} (h : (1 < 1 + a → 1 ≤ T ∧ T ≤ 2000) ∧ (1 + a ≤ 1 → T = 0)) : (1 < 1 + a → 1 ≤ T ∧ T ≤ 1099511627776) ∧ (1 + a ≤ 1 → T = 0) := by omega
theorem fit_t2 {a k : Int} (h : a < 2) (hk : 2 ≤ k) : (k < 1 + a → 1 ≤ (0 : Int) ∧ (0 : Int) ≤ 1099511627776) ∧ (1 + a ≤ k → (0 : Int) = 0) := by omega
theorem fit_fin {a0 a1 a2 a3 a4 a5 a6 a9 a10 a11 a12 a13 a14 a15 a16 a17 a18 c10 c13 c14 c17 T0 T1 q19 : Int} (ga0 : 0 ≤ a0) (la0 : a0 < 3) (ga1 : 0 ≤ a1) (la1 : a1 < 4) (ga2 : 0 ≤ a2) (la2 : a2 < 2) (ga3 : 0 ≤ a3) (la3 : a3 < 3 * a0 + 1 + a1 - 2 * a0) (ga4 : 0 ≤ a4) (la4 : a4 < 3) (ga5 : 0 ≤ a5) (la5 : a5 < 3) (ga6 : 0 ≤ a6) (la6 : a6 < 64)
    (ga9 : 0 ≤ a9) (la9 : a9 < 300) (ga10 : 0 ≤ a10) (la10 : a10 < 5) (ga11 : 0 ≤ a11) (la11 : a11 < 4) (ga12 : 0 ≤ a12) (la12 : a12 < 5) (ga13 : 0 ≤ a13) (la13 : a13 < 5) (ga14 : 0 ≤ a14) (la14 : a14 < 5) (ga15 : 0 ≤ a15) (la15 : a15 < 4) (ga16 : 0 ≤ a16) (la16 : a16 < 500) (ga17 : 0 ≤ a17) (la17 : a17 < 3) (ga18 : 0 ≤ a18) (la18 : a18 < 300)
    (gc10 : 0 ≤ c10) (lc10 : c10 < 60) (gc13 : 0 ≤ c13) (lc13 : c13 < 150) (gc14 : 0 ≤ c14) (lc14 : c14 < 100) (gc17 : 0 ≤ c17) (lc17 : c17 < 4) (hT0b : 1 ≤ T0 ∧ T0 ≤ 2000) (hT1b : (1 < 1 + a2 → 1 ≤ T1 ∧ T1 ≤ 2000) ∧ (1 + a2 ≤ 1 → T1 = 0)) (hq : 0 ≤ q19 ∧ q19 < 100000) :
    OkC ⟨3 * a0 + 1 + a1, a0, 1 + a2, 2 * a0 + 1 + a3, 1 + a4, 1 + a5, 1 + a6, T0, T1, 0, 0, a9, 1 + a10, 1 + a10 + c10, a11, a12, 1 + a13, 1 + c13, 1 + a14, 1 + c14, 1 + a15, a16, 1 + a17, 1 + c17, 64 + a18, q19⟩ :=
  ⟨fit_n ga0 la0 ga1 la1, fit_s ga2 la2 (by decide), fit_s ga4 la4 (by decide), fit_s ga5 la5 (by decide), fit_s ga6 la6 (by decide), fit_z ga9 la9 (by decide), fit_s ga10 la10 (by decide), fit_z ga11 la11 (by decide), fit_z ga12 la12 (by decide), fit_s ga13 la13 (by decide), fit_s gc13 lc13 (by decide), fit_s ga14 la14 (by decide), fit_s gc14 lc14 (by decide), fit_s ga15 la15 (by decide), fit_z ga16 la16 (by decide), fit_s ga17 la17 (by decide), fit_s gc17 lc17 (by decide), fit_sec ga18 la18, fit_z hq.1 hq.2 (by decide),
   fit_f ga0 ga1, fit_q ga3 la3, fit_max ga10 la10 gc10 lc10, fit_t0 hT0b ga2, fit_t1 hT1b, fit_t2 la2 (by decide), fit_t2 la2 (by decide)⟩
end Go.X
