/- Plain words for the log: a cell with a byte turned, a torn cell. -/
import Derived.Test.YtbjjjapdioegpaaES18b
set_option linter.unusedVariables false
set_option linter.unusedSimpArgs false
namespace Go.X
open Go

theorem xor8 (a b : UInt8) : bitsOf .xor .u8 (a.toNat : Int) (b.toNat : Int) = ((a ^^^ b).toNat : Int) := by
  have ha : a.toNat < 256 := UInt8.toNat_lt _
  have hb : b.toNat < 256 := UInt8.toNat_lt _
  have h : bitsOf .xor .u8 (a.toNat : Int) (b.toNat : Int) = IntKind.u8.wrap (((BitVec.ofInt 8 (a.toNat : Int)) ^^^ (BitVec.ofInt 8 (b.toNat : Int))).toNat : Nat) := rfl
  have hlt : a.toNat ^^^ b.toNat < 2 ^ 8 := Nat.xor_lt_two_pow ha hb
  rw [h, BitVec.ofInt_natCast, BitVec.ofInt_natCast, BitVec.toNat_xor, BitVec.toNat_ofNat, BitVec.toNat_ofNat, Nat.mod_eq_of_lt ha, Nat.mod_eq_of_lt hb, UInt8.toNat_xor]
  exact w_u8 (by omega) (by omega)
theorem xor8_ne {a b : UInt8} (h : b ≠ 0) : a ^^^ b ≠ a := by
  intro e
  apply h
  have : a ^^^ (a ^^^ b) = a ^^^ a := by rw [e]
  rw [← UInt8.xor_assoc, UInt8.xor_self, UInt8.zero_xor] at this
  exact this

theorem pb4_inj {m n : Nat} (hm : m < 4294967296) (hn : n < 4294967296) (h : (put8 (m : Int)).take 4 = (put8 (n : Int)).take 4) : m = n := by
  simp only [put8, pb, List.nil_append, List.cons_append, List.take_succ_cons, List.take_zero, List.cons.injEq, and_true] at h
  obtain ⟨h0, h1, h2, h3⟩ := h
  have e : ∀ k, byteAt (m : Int) k = byteAt (n : Int) k → (((m : Int) / 2 ^ (8 * k)) % 256).toNat = (((n : Int) / 2 ^ (8 * k)) % 256).toNat := fun k hk => by
    rw [← byteAt_nat, ← byteAt_nat, hk]
  have e0 := e 0 h0
  have e1 := e 1 h1
  have e2 := e 2 h2
  have e3 := e 3 h3
  simp only [Nat.reduceMul, Int.reducePow, Int.ediv_one] at e0 e1 e2 e3
  omega

theorem cell_inj {p pl kd p2 pl2 kd2 : Int} {d d2 : List UInt8} (hm : mayC p pl kd d.length = true) (hm2 : mayC p2 pl2 kd2 d2.length = true) :
    cellB p pl kd d = cellB p2 pl2 kd2 d2 ↔ (((p = p2 ∧ pl = pl2) ∧ kd = kd2) ∧ d = d2) := by
  constructor
  · intro h
    refine ⟨⟨⟨?_, ?_⟩, ?_⟩, ?_⟩
    · rw [← cell_pass hm, ← cell_pass hm2, h]
    · rw [← cell_pl hm, ← cell_pl hm2, h]
    · rw [← cell_kd hm, ← cell_kd hm2, h]
    · rw [← cell_d hm, ← cell_d hm2, h]
  · rintro ⟨⟨⟨rfl, rfl⟩, rfl⟩, rfl⟩; rfl

theorem set_append_lt {α : Type} {l m : List α} {k : Nat} {c : α} (h : k < l.length) : (l ++ m).set k c = l.set k c ++ m := by
  rw [List.set_append, if_pos h]
theorem set_append_ge {α : Type} {l m : List α} {k : Nat} {c : α} (h : l.length ≤ k) : (l ++ m).set k c = l ++ m.set (k - l.length) c := by
  rw [List.set_append, if_neg (by omega)]

/-- a valid cell with one byte turned is no cell put again -/
theorem cell_turned {p pl kd : Int} {d : List UInt8} (hm : mayC p pl kd d.length = true) {k : Nat} (hk : k < 64) {c : UInt8} (hc : c ≠ (cellB p pl kd d).getD k 0)
    (h2 : mayL ((cellB p pl kd d).set k c) = true) : againB ((cellB p pl kd d).set k c) ≠ (cellB p pl kd d).set k c := by
  intro h
  obtain ⟨L, hL⟩ : ∃ L, L = (cellB p pl kd d).set k c := ⟨_, rfl⟩
  rw [← hL] at h h2
  have hl : L.length = 64 := by rw [hL, List.length_set, cell_len hm]
  have hm2 : mayC (passOf L : Nat) (plOf L : Nat) (kdOf L : Nat) (dOf L).length = true := by rw [dOf_len hl]; exact h2
  have hlen := bodyB_len p pl kd d (mayC_iff.1 hm).2.2.2.2.2.2
  have hlen2 := bodyB_len (passOf L : Nat) (plOf L : Nat) (kdOf L : Nat) (dOf L) (mayC_iff.1 hm2).2.2.2.2.2.2
  have hne : (cellB p pl kd d).set k c ≠ cellB p pl kd d := fun e => by
    apply hc
    have e1 : ((cellB p pl kd d).set k c).getD k 0 = c := by simp [List.getD_eq_getElem?_getD, cell_len hm, hk]
    rw [← e1, e]
  unfold againB at h
  have hcell : cellB (passOf L : Nat) (plOf L : Nat) (kdOf L : Nat) (dOf L) = (cellB p pl kd d).set k c := by rw [h, hL]
  by_cases h56 : k < 56
  · have e : (cellB p pl kd d).set k c = (bodyB p pl kd d).set k c ++ ((put8 (sum18 (bodyB p pl kd d) : Nat)).take 4 ++ (List.replicate 3 0 ++ [markB p])) := by
      rw [cellB, List.append_assoc, List.append_assoc, set_append_lt (by omega)]
    rw [e, cellB, List.append_assoc, List.append_assoc] at hcell
    obtain ⟨hb, hr⟩ := List.append_inj hcell (by rw [List.length_set, hlen, hlen2])
    obtain ⟨hs, _⟩ := List.append_inj hr (by simp)
    have b1 := sumTo_bd (bodyB p pl kd d) (bodyB p pl kd d).length (by omega)
    have b2 := sumTo_bd (bodyB (passOf L : Nat) (plOf L : Nat) (kdOf L : Nat) (dOf L)) (bodyB (passOf L : Nat) (plOf L : Nat) (kdOf L : Nat) (dOf L)).length (by omega)
    have hs2 := pb4_inj (by unfold sum18; omega) (by unfold sum18; omega) hs
    rw [hb] at hs2
    have := (sum_set (bodyB p pl kd d) k c (by omega)).1 hs2
    apply hc
    rw [this, cellB, List.append_assoc, List.append_assoc]
    simp only [List.getD_eq_getElem?_getD]
    rw [List.getElem?_append_left (by omega)]
  · have e : (cellB p pl kd d).set k c = bodyB p pl kd d ++ ((put8 (sum18 (bodyB p pl kd d) : Nat)).take 4 ++ (List.replicate 3 0 ++ [markB p])).set (k - (bodyB p pl kd d).length) c := by
      rw [cellB, List.append_assoc, List.append_assoc, set_append_ge (by omega)]
    have hcell2 := hcell
    rw [e, cellB, List.append_assoc, List.append_assoc] at hcell2
    obtain ⟨hb, _⟩ := List.append_inj hcell2 (by rw [hlen, hlen2])
    have hp : ((passOf L : Nat) : Int) = p := by
      have : ∀ {q ql qk : Int} {e : List UInt8}, mayC q ql qk e.length = true → (passOf (bodyB q ql qk e) : Int) = q := fun {q ql qk e} hq => by
        have h1 := cell_pass hq
        have h3 : passOf (cellB q ql qk e) = passOf (bodyB q ql qk e) := by
          have hl := bodyB_len q ql qk e (mayC_iff.1 hq).2.2.2.2.2.2
          have : ∀ j, j < 8 → (cellB q ql qk e).getD j 0 = (bodyB q ql qk e).getD j 0 := fun j hj => by
            rw [cellB, List.append_assoc, List.append_assoc]
            simp only [List.getD_eq_getElem?_getD]
            rw [List.getElem?_append_left (by omega)]
          simp only [passOf, get8, getTo, Nat.zero_add]
          rw [this 0 (by omega), this 1 (by omega), this 2 (by omega), this 3 (by omega), this 4 (by omega), this 5 (by omega), this 6 (by omega), this 7 (by omega)]
        rw [← h3]; exact h1
      rw [← this hm, ← this hm2, hb]
    apply hne
    rw [← hcell, cellB, hb, hp]
    rfl

/-- a part of the first byte on, then another one's -/
theorem torn_pass {p pl kd : Int} {d : List UInt8} (hm : mayC p pl kd d.length = true) {l : List UInt8} {k : Nat} (hk : 1 ≤ k) (hk2 : k < 64) (hl : l.length = 64) (h0 : l.getD 1 0 = 0 ∧ l.getD 2 0 = 0 ∧ l.getD 3 0 = 0) :
    (passOf ((cellB p pl kd d).take k ++ l.drop k) : Int) = p ∧ ((cellB p pl kd d).take k ++ l.drop k).getD 63 0 = l.getD 63 0 := by
  have hc := cell_len hm
  have hg : ∀ j, j < 64 → ((cellB p pl kd d).take k ++ l.drop k).getD j 0 = if j < k then (cellB p pl kd d).getD j 0 else l.getD j 0 := fun j hj => by
    simp only [List.getD_eq_getElem?_getD]
    by_cases h : j < k
    · rw [if_pos h, List.getElem?_append_left (by simp; omega), List.getElem?_take_of_lt h]
    · rw [if_neg h, List.getElem?_append_right (by simp; omega), List.getElem?_drop, List.length_take, Nat.min_eq_left (by omega)]
      congr 2; omega
  refine ⟨?_, ?_⟩
  · obtain ⟨h1, h2, _⟩ := mayC_iff.1 hm
    have hb := fun k => byteAt_nat p k
    have e0 := hb 0
    have e1 := hb 1
    have e2 := hb 2
    have e3 := hb 3
    have c0 : (cellB p pl kd d).getD 0 0 = byteAt p 0 := by rw [cell_head]; rfl
    have c1 : (cellB p pl kd d).getD 1 0 = byteAt p 1 := by rw [cell_head]; rfl
    have c2 : (cellB p pl kd d).getD 2 0 = byteAt p 2 := by rw [cell_head]; rfl
    have c3 : (cellB p pl kd d).getD 3 0 = byteAt p 3 := by rw [cell_head]; rfl
    have hz : (0 : UInt8).toNat = 0 := rfl
    simp only [Nat.reduceMul, Int.reducePow, Nat.reducePow, Int.ediv_one, Nat.mul_one] at e0 e1 e2 e3
    have g0 : (((cellB p pl kd d).take k ++ l.drop k).getD 0 0).toNat = p.toNat := by rw [hg 0 (by omega), if_pos (by omega), c0]; omega
    have g1 : (((cellB p pl kd d).take k ++ l.drop k).getD 1 0).toNat = 0 := by rw [hg 1 (by omega)]; split; rw [c1]; omega; rw [h0.1]; rfl
    have g2 : (((cellB p pl kd d).take k ++ l.drop k).getD 2 0).toNat = 0 := by rw [hg 2 (by omega)]; split; rw [c2]; omega; rw [h0.2.1]; rfl
    have g3 : (((cellB p pl kd d).take k ++ l.drop k).getD 3 0).toNat = 0 := by rw [hg 3 (by omega)]; split; rw [c3]; omega; rw [h0.2.2]; rfl
    simp only [passOf, get8, getTo, Nat.zero_add, g0, g1, g2, g3]
    simp only [Nat.reduceMul, Int.reducePow, Nat.reducePow, Int.ediv_one, Nat.mul_one]
    omega
  · rw [hg 63 (by omega), if_neg (by omega)]
theorem cell_top {p pl kd : Int} {d : List UInt8} (hm : mayC p pl kd d.length = true) : (cellB p pl kd d).getD 1 0 = 0 ∧ (cellB p pl kd d).getD 2 0 = 0 ∧ (cellB p pl kd d).getD 3 0 = 0 := by
  obtain ⟨h1, h2, _⟩ := mayC_iff.1 hm
  have e1 := byteAt_nat p 1
  have e2 := byteAt_nat p 2
  have e3 := byteAt_nat p 3
  simp only [Nat.reduceMul, Int.reducePow] at e1 e2 e3
  rw [cell_head]
  simp only [List.getD_cons_succ, List.getD_cons_zero]
  refine ⟨?_, ?_, ?_⟩ <;> apply UInt8.toNat_inj.1 <;> show _ = 0 <;> omega
theorem mark_inj {p q : Int} (h1 : 1 ≤ p ∧ p ≤ 250) (h2 : 0 ≤ q ∧ q ≤ 250) (h : (markB p).toNat = (markB q).toNat) : p = q := by
  unfold markB at h
  rw [if_neg (by omega), if_neg (by omega)] at h
  have a := b8_nat p
  have b := b8_nat q
  omega
/-- over another pass -/
theorem torn_other {p pl kd p2 pl2 kd2 : Int} {d d2 : List UInt8} (hm : mayC p pl kd d.length = true) (hm2 : mayC p2 pl2 kd2 d2.length = true) (hne : p ≠ p2) {k : Nat} (hk : 1 ≤ k) (hk2 : k < 64) :
    wholeB ((cellB p pl kd d).take k ++ (cellB p2 pl2 kd2 d2).drop k) = false := by
  obtain ⟨h1, h2⟩ := torn_pass hm hk hk2 (cell_len hm2) (cell_top hm2)
  cases hw : wholeB ((cellB p pl kd d).take k ++ (cellB p2 pl2 kd2 d2).drop k) with
  | false => rfl
  | true =>
    exfalso
    simp only [wholeB, h1, h2, cell_last hm2, Bool.and_eq_true, decide_eq_true_eq] at hw
    obtain ⟨a1, a2, _⟩ := mayC_iff.1 hm
    obtain ⟨b1, b2, _⟩ := mayC_iff.1 hm2
    exact hne (mark_inj ⟨b1, b2⟩ ⟨by omega, a2⟩ (by have := hw.2; omega)).symm
/-- over noughts -/
theorem torn_zero {p pl kd : Int} {d : List UInt8} (hm : mayC p pl kd d.length = true) {k : Nat} (hk2 : k < 64) :
    wholeB ((cellB p pl kd d).take k ++ (List.replicate 64 (0 : UInt8)).drop k) = false := by
  by_cases h0 : k = 0
  · subst h0
    simp only [List.take_zero, List.nil_append, List.drop_zero]
    decide
  · obtain ⟨h1, h2⟩ := torn_pass hm (by omega) hk2 (List.length_replicate (n := 64) (a := (0 : UInt8))) ⟨rfl, rfl, rfl⟩
    cases hw : wholeB ((cellB p pl kd d).take k ++ (List.replicate 64 (0 : UInt8)).drop k) with
    | false => rfl
    | true =>
      exfalso
      have hz : (List.replicate 64 (0 : UInt8)).getD 63 0 = 0 := rfl
      simp only [wholeB, h1, h2, hz, Bool.and_eq_true, decide_eq_true_eq] at hw
      obtain ⟨a1, a2, _⟩ := mayC_iff.1 hm
      have := hw.2
      unfold markB at this
      rw [if_neg (by omega)] at this
      have b := b8_nat p
      have hzz : (0 : UInt8).toNat = 0 := rfl
      omega
end Go.X
namespace Go.X
open Go
theorem rdS_takeB {M : Hp} {A : Option Addr} {l : List UInt8} (h : RdS M A (bv l)) (k : Nat) : RdS M A (bv (l.take k)) := by
  rw [bv_take]
  rcases h with h | ⟨p, hp, h⟩
  · exact .inl (by rw [h, List.take_nil])
  · exact .inr ⟨p, hp, h.take k⟩
/-- the kept cell's data -/
theorem kept {M : Hp} {A : Option Addr} {l : List UInt8} {n k : Nat} (h : RdS M A (bv l)) (hn : n = l.length) (hk : k ≤ n) : ∃ d : List UInt8, k = d.length ∧ RdS M A (bv d) :=
  ⟨l.take k, by rw [List.length_take]; omega, rdS_takeB h k⟩
theorem own_two {z : World} {x y u v : Nat × Obj} {M : Hp} (w : World) (h : Own z w (x :: y :: u :: v :: M)) : Own z w (x :: y :: M) :=
  h.sublist (.cons_cons _ (.cons_cons _ (.cons _ (.cons _ (.refl _)))))
theorem own_two' {z : World} {x y u v : Nat × Obj} {M : Hp} (w : World) (h : Own z w (y :: x :: u :: v :: M)) : Own z w (x :: y :: M) :=
  own_two w (h.perm (List.Perm.swap _ _ _))
end Go.X
namespace Go.X
open Go
theorem turned_fin {p pl kd : Int} {d : List UInt8} (hm : mayC p pl kd d.length = true) {k : Nat} (hk : k < 64) {x : UInt8} {ok : Bool} {e P : Int}
    (hok : ok = wholeB ((cellB p pl kd d).set k ((cellB p pl kd d).getD k 0 ^^^ x)))
    (h : (e = 0 ∧ (ok = true → againB ((cellB p pl kd d).set k ((cellB p pl kd d).getD k 0 ^^^ x)) = (cellB p pl kd d).set k ((cellB p pl kd d).getD k 0 ^^^ x) ∧ mayL ((cellB p pl kd d).set k ((cellB p pl kd d).getD k 0 ^^^ x)) = true ∧ P = (passOf ((cellB p pl kd d).set k ((cellB p pl kd d).getD k 0 ^^^ x)) : Nat))) ∨
      (e = 12 ∧ ok = true ∧ ¬ (mayL ((cellB p pl kd d).set k ((cellB p pl kd d).getD k 0 ^^^ x)) = true ∧ againB ((cellB p pl kd d).set k ((cellB p pl kd d).getD k 0 ^^^ x)) = (cellB p pl kd d).set k ((cellB p pl kd d).getD k 0 ^^^ x)))) :
    ((x.toNat : Int) = 0 ∧ ok = true ∧ e = 0) ∨ ((x.toNat : Int) ≠ 0 ∧ ((ok = false ∧ e = 0) ∨ (ok = true ∧ e = 12))) := by
  by_cases hx : x = 0
  · subst hx
    have e1 : (cellB p pl kd d).set k ((cellB p pl kd d).getD k 0 ^^^ 0) = cellB p pl kd d := by
      rw [UInt8.xor_zero]
      apply List.ext_getElem (by simp)
      intro i h1 h2
      rw [List.getElem_set]
      split
      · rename_i hi; subst hi; simp [List.getD_eq_getElem?_getD, h2]
      · rfl
    rw [e1] at h hok
    refine .inl ⟨rfl, hok.trans (cell_whole hm), ?_⟩
    rcases h with ⟨h, _⟩ | ⟨_, _, h⟩
    · exact h
    · exact absurd ⟨cell_may hm, cell_again hm⟩ h
  · refine .inr ⟨fun h0 => hx (UInt8.toNat_inj.1 (by simpa using h0)), ?_⟩
    cases ok with
    | false => exact .inl ⟨rfl, by rcases h with ⟨h, _⟩ | ⟨_, h, _⟩ <;> first | exact h | cases h⟩
    | true =>
      refine .inr ⟨rfl, ?_⟩
      rcases h with ⟨_, h⟩ | ⟨h, _⟩
      · obtain ⟨h1, h2, _⟩ := h rfl
        exact absurd h1 (cell_turned hm hk (xor8_ne hx) h2)
      · exact h
end Go.X
namespace Go.X
open Go
theorem torn_fin {p pl kd p2 pl2 kd2 : Int} {d d2 : List UInt8} (hm : mayC p pl kd d.length = true) (hm2 : mayC p2 pl2 kd2 d2.length = true) (hne : p ≠ p2) {k : Nat} (hk : k < 64) {zr ok : Bool} {e P : Int} {lz L : List UInt8}
    (hlz : lz = if zr = true then List.replicate 64 (0 : UInt8) else cellB p2 pl2 kd2 d2) (hL : L = (cellB p pl kd d).take k ++ lz.drop k) (hok : ok = wholeB L)
    (h : (e = 0 ∧ (ok = true → againB L = L ∧ mayL L = true ∧ P = (passOf L : Nat))) ∨ (e = 12 ∧ ok = true ∧ ¬ (mayL L = true ∧ againB L = L))) :
    (ok = false ∧ e = 0) ∨ (ok = true ∧ zr = false ∧ e = 0 ∧ P = p2) := by
  cases ok with
  | false => exact .inl ⟨rfl, by rcases h with ⟨h, _⟩ | ⟨_, h, _⟩ <;> first | exact h | cases h⟩
  | true =>
    cases zr with
    | true => rw [if_pos rfl] at hlz; rw [hL, hlz, torn_zero hm hk] at hok; cases hok
    | false =>
      rw [if_neg (by decide)] at hlz
      by_cases h0 : k = 0
      · have e1 : L = cellB p2 pl2 kd2 d2 := by rw [hL, hlz, h0]; simp
        rw [e1] at h
        refine .inr ⟨rfl, rfl, ?_⟩
        rcases h with ⟨h1, h2⟩ | ⟨_, _, h⟩
        · exact ⟨h1, (h2 rfl).2.2.trans (cell_pass hm2)⟩
        · exact absurd ⟨cell_may hm2, cell_again hm2⟩ h
      · rw [hL, hlz, torn_other hm hm2 hne (by omega) hk] at hok; cases hok
theorem lz_len {p2 pl2 kd2 : Int} {d2 lz : List UInt8} (hm2 : mayC p2 pl2 kd2 d2.length = true) {zr : Bool} (hlz : lz = if zr = true then List.replicate 64 (0 : UInt8) else cellB p2 pl2 kd2 d2) : lz.length = 64 := by
  rw [hlz]; split
  · simp
  · exact cell_len hm2
end Go.X
