import Derived.Test.YtjlggcgmmpopmaaDoorV7
import Derived.Test.YtjlggcgmmpopmaaDoorRows
set_option maxRecDepth 100000
set_option maxHeartbeats 2000000
set_option linter.unusedVariables false
set_option linter.unusedSimpArgs false
namespace Go.Proofs
open Go Go.Ab
def isL (c : UInt8) : Bool := Z25_q ((c.toNat : Nat) : Int)
def isD (c : UInt8) : Bool := Z21_q ((c.toNat : Nat) : Int)
def nameC (c : UInt8) : Bool := isL c || isD c
def numC (c : UInt8) : Bool := isD c || c == 45
def fc (c : UInt8) : Nat := if c = 34 then 2 else if c = 91 then 3 else if c = 123 then 4 else if isD c || c == 45 then 1 else if c = 44 ∨ c = 93 ∨ c = 125 ∨ c = 58 then 5 else 0
theorem isL_fc (c : UInt8) : isL c = true → fc c = 0 := by
 revert c; apply all_u8; decide +kernel
theorem name_fc (c : UInt8) : nameC c = true → c ≠ 125 := by
 revert c; apply all_u8; decide +kernel
def St (x : Bs) : Prop := x = [] ∨ ∃ c r, x = c :: r ∧ fc c = 5
theorem St.name {x : Bs} (h : St x) : ∀ c r, x = c :: r → nameC c = false := by
 rintro c r rfl
 rcases h with h | ⟨c', r', h, hf⟩
 ·cases h
 ·simp only [List.cons.injEq] at h
  obtain ⟨rfl, rfl⟩ := h
  revert hf; revert c; apply all_u8; decide +kernel
theorem St.num {x : Bs} (h : St x) : ∀ c r, x = c :: r → numC c = false := by
 rintro c r rfl
 rcases h with h | ⟨c', r', h, hf⟩
 ·cases h
 ·simp only [List.cons.injEq] at h
  obtain ⟨rfl, rfl⟩ := h
  revert hf; revert c; apply all_u8; decide +kernel
theorem run_eq (p : UInt8 → Bool) : ∀ (a b x y : Bs), (∀ c ∈ a, p c = true) → (∀ c ∈ b, p c = true) → (∀ c r, x = c :: r → p c = false) → (∀ c r, y = c :: r → p c = false) → a ++ x = b ++ y → a = b ∧ x = y
 | [], [], x, y, _, _, _, _, h => ⟨rfl, h⟩
 | [], b :: r, x, y, _, hb, hx, _, h => by
  have := hx b (r ++ y) h
  rw [hb b (by simp)] at this; cases this
 | a :: r, [], x, y, ha, _, _, hy, h => by
  have := hy a (r ++ x) h.symm
  rw [ha a (by simp)] at this; cases this
 | a :: r, b :: t, x, y, ha, hb, hx, hy, h => by
  simp only [List.cons_append, List.cons.injEq] at h
  obtain ⟨e1, e2⟩ := run_eq p r t x y (fun c hc => ha c (by simp [hc])) (fun c hc => hb c (by simp [hc])) hx hy h.2
  exact ⟨by rw [h.1, e1], e2⟩
theorem dig_D (k : Nat) (h : k < 10) : isD (UInt8.ofNat (48 + k)) = true ∧ (UInt8.ofNat (48 + k)).toNat = 48 + k := by
 have : ∀ i : Fin 10, isD (UInt8.ofNat (48 + i.val)) = true ∧ (UInt8.ofNat (48 + i.val)).toNat = 48 + i.val := by decide +kernel
 exact this ⟨k, h⟩
def dval (l : Bs) : Nat := l.foldl (fun a c => 10 * a + (c.toNat - 48)) 0
theorem digits_spec (n : Nat) : ∀ u, u < n → (∀ c ∈ Lib.decDigits u, isD c = true) ∧ dval (Lib.decDigits u) = u ∧ Lib.decDigits u ≠ [] := by
 induction n with
 | zero => intro u h; omega
 | succ n ih =>
  intro u hu
  rw [Lib.decDigits]
  by_cases h : u < 10
  ·rw [dif_pos h]
   obtain ⟨h1, h2⟩ := dig_D u h
   refine ⟨fun c hc => by rw [List.mem_singleton.1 hc]; exact h1, ?_, by simp⟩
   unfold dval
   simp only [List.foldl_cons, List.foldl_nil, h2]; omega
  ·rw [dif_neg h]
   obtain ⟨h1, h2⟩ := dig_D (u % 10) (by omega)
   obtain ⟨h3, h4, h5⟩ := ih (u / 10) (by omega)
   refine ⟨fun c hc => ?_, ?_, by simp⟩
   ·rcases List.mem_append.1 hc with hc | hc
    ·exact h3 c hc
    ·rw [List.mem_singleton.1 hc]; exact h1
   ·unfold dval at h4 ⊢
    rw [List.foldl_append, h4]
    simp only [List.foldl_cons, List.foldl_nil, h2]; omega
theorem dec_inj {u v : Nat} (h : Lib.decDigits u = Lib.decDigits v) : u = v := by
 have h1 := (digits_spec (u + 1) u (by omega)).2.1; have h2 := (digits_spec (v + 1) v (by omega)).2.1
 rw [h] at h1; omega
theorem dec_no {u : Nat} {r : Bs} (h : Lib.decDigits u = 45 :: r) : False := by
 have := (digits_spec (u + 1) u (by omega)).1 45 (by rw [h]; simp)
 revert this; decide +kernel
theorem itoa_inj {n m : Int} (h : Lib.itoa n = Lib.itoa m) : n = m := by
 unfold Lib.itoa at h
 split at h <;> split at h
 ·simp only [List.cons.injEq, true_and] at h
  have := dec_inj h; omega
 ·exact (dec_no h.symm).elim
 ·exact (dec_no h).elim
 ·have := dec_inj h; omega
theorem itoa_num (n : Int) : (∀ c ∈ Lib.itoa n, numC c = true) ∧ ∃ c r, Lib.itoa n = c :: r ∧ fc c = 1 := by
 have hd : ∀ c : UInt8, isD c = true → fc c = 1 := by apply all_u8; decide +kernel
 unfold Lib.itoa
 split
 ·obtain ⟨h1, _, h2⟩ := digits_spec (n.natAbs + 1) n.natAbs (by omega)
  refine ⟨fun c hc => ?_, _, _, rfl, by decide +kernel⟩
  rcases List.mem_cons.1 hc with rfl | hc
  ·decide +kernel
  ·simp [numC, h1 c hc]
 ·obtain ⟨h1, _, h2⟩ := digits_spec (n.toNat + 1) n.toNat (by omega)
  refine ⟨fun c hc => by simp [numC, h1 c hc], ?_⟩
  cases e : Lib.decDigits n.toNat with
  | nil => exact absurd e h2
  | cons c r => exact ⟨c, r, rfl, hd c (h1 c (by rw [e]; simp))⟩
def unhx (c : UInt8) : Nat := if c.toNat < 58 then c.toNat - 48 else c.toNat - 87
def dec : Bs → UInt8
 | [] => 0
 | a :: r => if a = 92 then (match r with
  | [] => 0
  | b :: t => if b = 34 then 34 else if b = 92 then 92 else if b = 110 then 10 else if b = 114 then 13 else if b = 116 then 9 else (match t with
   | _ :: _ :: h :: l :: _ => UInt8.ofNat (16 * unhx h + unhx l)
   | _ => 0)) else a
theorem unhx_eq (c : UInt8) : UInt8.ofNat (16 * unhx (hx (c.toNat / 16)) + unhx (hx (c.toNat % 16))) = c := by
 revert c; apply all_u8; decide +kernel
theorem dec_esc (c : UInt8) (x : Bs) : dec (esc c ++ x) = c := by
 unfold esc
 by_cases c1 : c = 34
 ·rw [if_pos c1, c1]; rfl
 rw [if_neg c1]
 by_cases c2 : c = 92
 ·rw [if_pos c2, c2]; rfl
 rw [if_neg c2]
 by_cases c3 : c = 10
 ·rw [if_pos c3, c3]; rfl
 rw [if_neg c3]
 by_cases c4 : c = 13
 ·rw [if_pos c4, c4]; rfl
 rw [if_neg c4]
 by_cases c5 : c = 9
 ·rw [if_pos c5, c5]; rfl
 rw [if_neg c5]
 split
 ·show (if c = 92 then _ else c) = c
  rw [if_neg c2]
 ·exact unhx_eq c
theorem esc_eq {a c : UInt8} {x y : Bs} (h : esc a ++ x = esc c ++ y) : a = c ∧ x = y := by
 have : a = c := by
  have h1 := dec_esc a x
  rw [h, dec_esc] at h1; exact h1.symm
 subst this
 exact ⟨rfl, List.append_cancel_left h⟩
theorem esc_head (c : UInt8) : ∃ d r, esc c = d :: r ∧ d ≠ 34 := by
 have : ∀ c : UInt8, (esc c).head? ≠ some 34 ∧ esc c ≠ [] := by apply all_u8; decide +kernel
 cases e : esc c with
 | nil => exact absurd e (this c).2
 | cons d r => exact ⟨d, r, rfl, fun hd => (this c).1 (by rw [e, hd]; rfl)⟩
theorem flat_inj : ∀ (s t x y : Bs), s.flatMap esc ++ 34 :: x = t.flatMap esc ++ 34 :: y → s = t ∧ x = y
 | [], [], x, y, h => by simp at h; exact ⟨rfl, h⟩
 | [], c :: r, x, y, h => by
  obtain ⟨d, q, e, hd⟩ := esc_head c
  simp [e] at h; exact absurd h.1.symm hd
 | c :: r, [], x, y, h => by
  obtain ⟨d, q, e, hd⟩ := esc_head c
  simp [e] at h; exact absurd h.1 hd
 | a :: r, c :: t, x, y, h => by
  simp only [List.flatMap_cons, List.append_assoc] at h
  obtain ⟨e1, e2⟩ := esc_eq h
  obtain ⟨e3, e4⟩ := flat_inj r t x y e2
  exact ⟨by rw [e1, e3], e4⟩
theorem qt_inj {s t x y : Bs} (h : qt s ++ x = qt t ++ y) : s = t ∧ x = y := by
 unfold qt at h
 simp only [List.cons_append, List.append_assoc, List.cons.injEq, true_and, List.nil_append] at h
 exact flat_inj s t x y h
theorem name_loop : ∀ (l : Bs) (i : Nat) (z : Unit ⊕ Bool), Z19_q10 l i = z → z = Sum.inr false ∨ (∀ c ∈ l, nameC c = true) ∧ (i = 0 → ∀ c r, l = c :: r → isL c = true)
 | [], _, _, _ => .inr ⟨by simp, fun _ c r h => by cases h⟩
 | a :: r, i, z, h => by
  rw [Z19_q10] at h
  simp only [Ab.on] at h
  by_cases hl : Z25_q ((a.toNat : Nat) : Int) = true
  ·rw [hl] at h
   simp only [Bool.not_true, Bool.false_and, cond_false] at h
   rcases name_loop r (i + 1) z h with h | ⟨h1, _⟩
   ·exact .inl h
   ·refine .inr ⟨fun c hc => ?_, fun _ c q e => ?_⟩
    ·rcases List.mem_cons.1 hc with rfl | hc
     ·simp [nameC, isL, hl]
     ·exact h1 c hc
    ·simp only [List.cons.injEq] at e; rw [← e.1]; exact hl
  ·have hl' : Z25_q ((a.toNat : Nat) : Int) = false := by simpa using hl
   rw [hl'] at h
   by_cases hi : i = 0
   ·subst hi; simp at h; exact .inl h.symm
   ·have hd0 : decide (((i : Nat) : Int) = 0) = false := decide_eq_false (by omega)
    rw [hd0] at h
    simp only [Bool.not_false, Bool.true_and, cond_true, Bool.false_or] at h
    cases hd : Z21_q ((a.toNat : Nat) : Int) with
    | false => rw [hd] at h; simp at h; exact .inl h.symm
    | true =>
     rw [hd] at h
     simp only [Bool.not_true, cond_false] at h
     rcases name_loop r (i + 1) z h with h | ⟨h1, _⟩
     ·exact .inl h
     ·refine .inr ⟨fun c hc => ?_, fun e => absurd e hi⟩
      rcases List.mem_cons.1 hc with rfl | hc
      ·simp [nameC, isD, hd]
      ·exact h1 c hc
theorem name_is {k : Bs} (h : Z19_q k = true) : (∀ c ∈ k, nameC c = true) ∧ ∃ c r, k = c :: r ∧ isL c = true := by
 unfold Z19_q at h
 cases k with
 | nil => simp at h
 | cons a r =>
  cases hb : ((decide ((((a :: r : Bs).length : Nat) : Int) < (1 : Int))) || (decide ((64 : Int) < (((a :: r : Bs).length : Nat) : Int)))) with
  | true => rw [hb] at h; simp at h
  | false =>
   rw [hb, cond_false] at h
   simp only [Ab.on] at h
   rcases name_loop (a :: r) 0 _ rfl with h1 | ⟨h1, h2⟩
   ·rw [h1] at h; simp at h
   ·exact ⟨h1, a, r, rfl, h2 rfl a r rfl⟩
end Go.Proofs

namespace Go.Proofs
open Go Go.Ab
def trueB : Bs := [116, 114, 117, 101]
def falseB : Bs := [102, 97, 108, 115, 101]
def nullB : Bs := [110, 117, 108, 108]
def Nd (v : TValue) : Prop :=
 (v.FKind = 0 ∧ v.FInt = 0 ∧ v.FText = [] ∧ v.FItems.l = [] ∧ v.FKeys.l = []) ∨ (v.FKind = 1 ∧ (v.FInt = 0 ∨ v.FInt = 1) ∧ v.FText = [] ∧ v.FItems.l = [] ∧ v.FKeys.l = []) ∨
 (v.FKind = 2 ∧ v.FText = [] ∧ v.FItems.l = [] ∧ v.FKeys.l = []) ∨ (v.FKind = 3 ∧ v.FInt = 0 ∧ v.FItems.l = [] ∧ v.FKeys.l = []) ∨
 (v.FKind = 4 ∧ v.FInt = 0 ∧ v.FItems.l = [] ∧ v.FKeys.l = [] ∧ Z19_q v.FText = true ∧ v.FText ≠ trueB ∧ v.FText ≠ falseB ∧ v.FText ≠ nullB) ∨
 (v.FKind = 5 ∧ v.FInt = 0 ∧ v.FText = [] ∧ v.FKeys.l = []) ∨ (v.FKind = 6 ∧ v.FInt = 0 ∧ v.FText = [] ∧ v.FKeys.l.length = v.FItems.l.length)
theorem node_of {v : TValue} (h : Z30_q v false = some true) : Nd v := by
 unfold Z30_q at h
 unfold Nd
 by_cases c0 : v.FKind = 0
 ·rw [decide_eq_true c0, cond_true] at h
  simp at h
  exact .inl ⟨c0, h.1.1.1, h.1.1.2, h.1.2, h.2⟩
 rw [decide_eq_false c0, cond_false] at h
 by_cases c1 : v.FKind = 1
 ·rw [decide_eq_true c1, cond_true] at h
  simp at h
  exact .inr (.inl ⟨c1, h.1.1.1, h.1.1.2, h.1.2, h.2⟩)
 rw [decide_eq_false c1, cond_false] at h
 by_cases c2 : v.FKind = 2
 ·rw [decide_eq_true c2, cond_true] at h
  simp at h
  exact .inr (.inr (.inl ⟨c2, h.1.1, h.1.2, h.2⟩))
 rw [decide_eq_false c2, cond_false] at h
 by_cases c3 : v.FKind = 3
 ·rw [decide_eq_true c3, cond_true] at h
  simp at h
  exact .inr (.inr (.inr (.inl ⟨c3, h.1.1, h.1.2, h.2⟩)))
 rw [decide_eq_false c3, cond_false] at h
 by_cases c4 : v.FKind = 4
 ·rw [decide_eq_true c4, cond_true] at h
  simp only [Ab.on] at h
  cases c : (((decide (v.FInt = (0 : Int))) && (decide (((v.FItems.l.length : Nat) : Int) = (0 : Int)))) && (decide (((v.FKeys.l.length : Nat) : Int) = (0 : Int)))) with
  | false => rw [c] at h; simp at h
  | true =>
   rw [c] at h
   simp at c h
   exact .inr (.inr (.inr (.inr (.inl ⟨c4, c.1.1, c.1.2, c.2, h.1.1.1, h.1.1.2, h.1.2, h.2⟩))))
 rw [decide_eq_false c4, cond_false] at h
 by_cases c5 : v.FKind = 5
 ·rw [decide_eq_true c5, cond_true] at h
  simp at h
  exact .inr (.inr (.inr (.inr (.inr (.inl ⟨c5, h.1.1, h.1.2, h.2⟩)))))
 rw [decide_eq_false c5, cond_false] at h
 by_cases c6 : v.FKind = 6
 ·rw [decide_eq_true c6, cond_true] at h
  rcases guardE h with ⟨c, _⟩ | ⟨c, h⟩
  ·simp at c
   exact .inr (.inr (.inr (.inr (.inr (.inr ⟨c6, c.1.1, c.1.2, by have := c.2; omega⟩)))))
  ·rw [c] at h; simp at h
 rw [decide_eq_false c6, cond_false] at h
 cases c : decide (v.FKind = (7 : Int)) with
 | true => rw [c, cond_true] at h; simp [Ab.on] at h
 | false => rw [c, cond_false] at h; simp at h
def Pl : Nat → TValue → Prop
 | 0, _ => False
 | n + 1, v => Nd v ∧ (∀ k ∈ v.FKeys.l, Z19_q k = true) ∧ ∀ x ∈ v.FItems.l, Pl n x
theorem keys_loop : ∀ (l : List Bs) (z : Unit ⊕ Bool), Z32_q24 true l = z → (z = Sum.inr false) ∨ (z = Sum.inl () ∧ ∀ k ∈ l, Z19_q k = true)
 | [], _, h => .inr ⟨h.symm, by simp⟩
 | a :: r, z, h => by
  rw [Z32_q24] at h
  simp only [Ab.on, cond_true, Bool.true_and] at h
  cases e : Z19_q a with
  | false => rw [e] at h; simp at h; exact .inl h.symm
  | true =>
   rw [e] at h
   simp only [Bool.not_true, cond_false] at h
   rcases keys_loop r z h with h | ⟨h, h2⟩
   ·exact .inl h
   ·exact .inr ⟨h, fun k hk => by rcases List.mem_cons.1 hk with rfl | hk; exact e; exact h2 k hk⟩
theorem keys_loopF : ∀ (l : List Bs), Z32_q24 false l = Sum.inl ()
 | [] => rfl
 | a :: r => by rw [Z32_q24]; simp only [Ab.on, Bool.false_and, cond_false]; exact keys_loopF r
theorem items_loop (b : Bool) (k : TValue → Bool → Option Bool) : ∀ (l : List TValue) (z : Unit ⊕ Bool), Z32_q11 b k l = some z → z = Sum.inr false ∨ (z = Sum.inl () ∧ ∀ x ∈ l, k x b = some true)
 | [], z, h => by rw [Z32_q11] at h; simp at h; exact .inr ⟨h.symm, by simp⟩
 | a :: r, z, h => by
  rw [Z32_q11] at h
  simp only [Ab.on] at h
  obtain ⟨y, e, h⟩ := bindO_some h
  cases y with
  | false => simp at h; exact .inl h.symm
  | true =>
   simp only [Bool.not_true, cond_false] at h
   rcases items_loop b k r z h with h | ⟨h, h2⟩
   ·exact .inl h
   ·exact .inr ⟨h, fun x hx => by rcases List.mem_cons.1 hx with rfl | hx; exact e; exact h2 x hx⟩
theorem whole_step {n : Nat} {v : TValue} {b : Bool} (h : Z32_qn (n + 1) v b = some true) : Z30_q v b = some true ∧ (b = true → ∀ k ∈ v.FKeys.l, Z19_q k = true) ∧ ∀ x ∈ v.FItems.l, Z32_qn n x b = some true := by
 rw [Z32_qn] at h
 obtain ⟨y, e, h⟩ := bindO_some h
 cases y with
 | false => simp at h
 | true =>
  simp only [Bool.not_true, cond_false, Ab.on] at h
  have hk : Z32_q24 b v.FKeys.l = Sum.inl () ∧ (b = true → ∀ k ∈ v.FKeys.l, Z19_q k = true) := by
   cases b with
   | false => exact ⟨keys_loopF _, fun h => by cases h⟩
   | true =>
    rcases keys_loop v.FKeys.l _ rfl with h1 | ⟨h1, h2⟩
    ·rw [h1] at h; simp at h
    ·exact ⟨h1, fun _ => h2⟩
  rw [hk.1] at h
  simp only at h
  obtain ⟨z, e2, h⟩ := bindO_some h
  rcases items_loop _ _ _ _ e2 with h1 | ⟨h1, h2⟩
  ·rw [h1] at h; simp at h
  ·exact ⟨e, hk.2, h2⟩
theorem pl_of (n : Nat) : ∀ v : TValue, Z32_qn n v true = some true → Z32_qn n v false = some true → Pl n v := by
 induction n with
 | zero => intro v h; cases h
 | succ n ih =>
  intro v h1 h2
  obtain ⟨_, a2, a3⟩ := whole_step h1
  obtain ⟨b1, _, b3⟩ := whole_step h2
  exact ⟨node_of b1, a2 rfl, fun x hx => ih x (a3 x hx) (b3 x hx)⟩
theorem eqk_loop (w : TValue) : ∀ (l : List Bs) (i : Nat), i + l.length ≤ w.FKeys.l.length → ∃ z, Z33_q24 w l i = some z ∧ (z = Sum.inr false ∧ l ≠ (w.FKeys.l.drop i).take l.length ∨ z = Sum.inl () ∧ l = (w.FKeys.l.drop i).take l.length)
 | [], i, _ => ⟨_, rfl, .inr ⟨rfl, by simp⟩⟩
 | a :: r, i, h => by
  simp only [List.length_cons] at h
  have hi : i < w.FKeys.l.length := by omega
  rw [Z33_q24]
  simp only [Ab.on]
  rw [List.getElem?_eq_getElem hi, Option.bind_some, List.drop_eq_getElem_cons hi]
  simp only [List.length_cons, List.take_succ_cons, List.cons.injEq, ne_eq]
  by_cases e : a = w.FKeys.l[i]
  ·rw [beq_iff_eq.2 e, Bool.not_true, cond_false]
   obtain ⟨z, h1, h2⟩ := eqk_loop w r (i + 1) (by omega)
   refine ⟨z, h1, ?_⟩
   rcases h2 with ⟨h2, h3⟩ | ⟨h2, h3⟩
   ·exact .inl ⟨h2, fun h => h3 h.2⟩
   ·exact .inr ⟨h2, e, h3⟩
  ·rw [show (a == w.FKeys.l[i]) = false from by simpa using e, Bool.not_false, cond_true]
   exact ⟨_, rfl, .inl ⟨rfl, fun h => e h.1⟩⟩
theorem eqi_loop (w : TValue) (k : TValue → TValue → Option Bool) (R : TValue → TValue → Prop) : ∀ (l : List TValue) (i : Nat), i + l.length ≤ w.FItems.l.length → (∀ a ∈ l, ∀ b, ∃ z, k a b = some z ∧ (z = true ↔ R a b)) →
  ∃ z, Z33_q10 w k l i = some z ∧ (z = Sum.inr false ∧ ¬ All2 R l ((w.FItems.l.drop i).take l.length) ∨ z = Sum.inl () ∧ All2 R l ((w.FItems.l.drop i).take l.length))
 | [], i, _, _ => ⟨_, rfl, .inr ⟨rfl, by simp; exact .nil⟩⟩
 | a :: r, i, h, hk => by
  simp only [List.length_cons] at h
  have hi : i < w.FItems.l.length := by omega
  rw [Z33_q10]
  simp only [Ab.on]
  obtain ⟨z, e1, e2⟩ := hk a (by simp) w.FItems.l[i]
  rw [List.getElem?_eq_getElem hi, Option.bind_some, e1, Option.bind_some, List.drop_eq_getElem_cons hi]
  simp only [List.length_cons, List.take_succ_cons]
  cases z with
  | true =>
   rw [Bool.not_true, cond_false]
   obtain ⟨z, h1, h2⟩ := eqi_loop w k R r (i + 1) (by omega) fun a ha => hk a (by simp [ha])
   refine ⟨z, h1, ?_⟩
   rcases h2 with ⟨h2, h3⟩ | ⟨h2, h3⟩
   ·exact .inl ⟨h2, fun h => by cases h with | cons _ h => exact h3 h⟩
   ·exact .inr ⟨h2, .cons (e2.1 rfl) h3⟩
  | false =>
   rw [Bool.not_false, cond_true]
   exact ⟨_, rfl, .inl ⟨rfl, fun h => by cases h with | cons h _ => have := e2.2 h; cases this⟩⟩
def Sm : Nat → TValue → TValue → Prop
 | 0, _, _ => False
 | n + 1, v, w => v.FKind = w.FKind ∧ v.FInt = w.FInt ∧ v.FText = w.FText ∧ v.FKeys.l = w.FKeys.l ∧ All2 (Sm n) v.FItems.l w.FItems.l
theorem equal_n (n : Nat) : ∀ v w : TValue, v.sz < n → ∃ z, Z33_qn n v w = some z ∧ (z = true ↔ Sm n v w) := by
 induction n with
 | zero => intro v w h; omega
 | succ n ih =>
  intro v w h
  rw [Z33_qn]
  cases c : (((((!decide (v.FKind = w.FKind)) || (!decide (v.FInt = w.FInt))) || (!(v.FText == w.FText))) || (!decide (((v.FItems.l.length : Nat) : Int) = ((w.FItems.l.length : Nat) : Int)))) || (!decide (((v.FKeys.l.length : Nat) : Int) = ((w.FKeys.l.length : Nat) : Int)))) with
  | true =>
   rw [cond_true]
   refine ⟨false, rfl, ⟨fun h => (by cases h), ?_⟩⟩
   rintro ⟨h1, h2, h3, h4, h5⟩
   rw [h1, h2, h3, h4, h5.length] at c
   simp at c
  | false =>
   rw [cond_false]
   simp at c
   obtain ⟨⟨⟨⟨k1, k2⟩, k3⟩, k4⟩, k5⟩ := c
   obtain ⟨z, e1, e2⟩ := eqk_loop w v.FKeys.l 0 (by omega)
   rw [e1, Option.bind_some]
   simp only [List.drop_zero, List.take_of_length_le (show w.FKeys.l.length ≤ v.FKeys.l.length by omega)] at e2
   rcases e2 with ⟨rfl, e2⟩ | ⟨rfl, e2⟩
   ·exact ⟨false, rfl, ⟨fun h => (by cases h), fun h => absurd h.2.2.2.1 e2⟩⟩
   ·simp only [Ab.on]
    obtain ⟨z, e3, e4⟩ := eqi_loop w (Z33_qn n) (Sm n) v.FItems.l 0 (by omega) fun a ha b => ih a b (by have := TValue.item_lt ha; omega)
    rw [e3, Option.bind_some]
    simp only [List.drop_zero, List.take_of_length_le (show w.FItems.l.length ≤ v.FItems.l.length by omega)] at e4
    rcases e4 with ⟨rfl, e4⟩ | ⟨rfl, e4⟩
    ·exact ⟨false, rfl, ⟨fun h => (by cases h), fun h => absurd h.2.2.2.2 e4⟩⟩
    ·exact ⟨true, rfl, ⟨fun _ => ⟨k1, k2, k3, e2, e4⟩, fun _ => rfl⟩⟩
theorem equal_eq {v w : TValue} (h : v.sz ≤ 1048576) : ∃ z, Z33_q v w = some z ∧ (z = true ↔ Sm F0 v w) := equal_n F0 v w (by rw [F0_eq]; omega)
theorem all2_map {α β : Type} {f : α → β} {R : α → α → Prop} {l m : List α} (h : All2 R l m) (hf : ∀ a ∈ l, ∀ b, R a b → f a = f b) : l.map f = m.map f := by
 induction h with
 | nil => rfl
 | cons h _ ih => simp only [List.map_cons]; rw [hf _ (by simp) _ h, ih fun a ha => hf a (by simp [ha])]
theorem sm_wr (n : Nat) : ∀ v w : TValue, Sm n v w → wr v = wr w := by
 induction n with
 | zero => intro v w h; exact h.elim
 | succ n ih =>
  intro v w ⟨h1, h2, h3, h4, h5⟩
  rw [wr_eq, wr_eq, h1, h2, h3, h4, all2_map h5 fun a _ b h => ih a b h]
end Go.Proofs

namespace Go.Proofs
open Go Go.Ab
def cl (v : TValue) : Nat := if v.FKind = 2 then 1 else if v.FKind = 3 then 2 else if v.FKind = 5 then 3 else if v.FKind = 6 then 4 else 0
theorem word_of {v : TValue} (h : Nd v) (hk : cl v = 0) : (v.FKind = 0 ∧ wr v = nullB) ∨ (v.FKind = 1 ∧ v.FInt = 0 ∧ wr v = falseB) ∨ (v.FKind = 1 ∧ v.FInt = 1 ∧ wr v = trueB) ∨ (v.FKind = 4 ∧ wr v = v.FText ∧ Z19_q v.FText = true ∧ v.FText ≠ trueB ∧ v.FText ≠ falseB ∧ v.FText ≠ nullB) := by
 rw [wr_eq]
 rcases h with ⟨k, h⟩ | ⟨k, h, _⟩ | ⟨k, h⟩ | ⟨k, h⟩ | ⟨k, h⟩ | ⟨k, h⟩ | ⟨k, h⟩
 ·exact .inl ⟨k, by simp [k, nullB]⟩
 ·rcases h with h | h
  ·exact .inr (.inl ⟨k, h, by simp [k, h, falseB]⟩)
  ·exact .inr (.inr (.inl ⟨k, h, by simp [k, h, trueB]⟩))
 ·simp [cl, k] at hk
 ·simp [cl, k] at hk
 ·exact .inr (.inr (.inr ⟨k, by simp [k], h.2.2.2⟩))
 ·simp [cl, k] at hk
 ·simp [cl, k] at hk
theorem word_chars {v : TValue} (h : Nd v) (hk : cl v = 0) : (∀ c ∈ wr v, nameC c = true) ∧ ∃ c r, wr v = c :: r ∧ fc c = 0 := by
 rcases word_of h hk with ⟨_, e⟩ | ⟨_, _, e⟩ | ⟨_, _, e⟩ | ⟨_, e, hn, _⟩
 ·rw [e]; exact ⟨by decide +kernel, _, _, rfl, by decide +kernel⟩
 ·rw [e]; exact ⟨by decide +kernel, _, _, rfl, by decide +kernel⟩
 ·rw [e]; exact ⟨by decide +kernel, _, _, rfl, by decide +kernel⟩
 ·rw [e]
  obtain ⟨h1, c, r, h2, h3⟩ := name_is hn
  exact ⟨h1, c, r, h2, isL_fc c h3⟩
theorem shape_of {v : TValue} (h : Nd v) : (cl v = 1 → v.FKind = 2 ∧ wr v = Lib.itoa v.FInt ∧ v.FText = [] ∧ v.FItems.l = [] ∧ v.FKeys.l = []) ∧ (cl v = 2 → v.FKind = 3 ∧ wr v = qt v.FText ∧ v.FInt = 0 ∧ v.FItems.l = [] ∧ v.FKeys.l = []) ∧
  (cl v = 3 → v.FKind = 5 ∧ wr v = 91 :: (Lib.join (v.FItems.l.map wr) sepB ++ [93]) ∧ v.FInt = 0 ∧ v.FText = [] ∧ v.FKeys.l = []) ∧
  (cl v = 4 → v.FKind = 6 ∧ wr v = 123 :: (Lib.join (List.zipWith pairB v.FKeys.l (v.FItems.l.map wr)) sepB ++ [125]) ∧ v.FInt = 0 ∧ v.FText = [] ∧ v.FKeys.l.length = v.FItems.l.length) ∧ cl v ≤ 4 := by
 rw [wr_eq]
 rcases h with ⟨k, h⟩ | ⟨k, h, _⟩ | ⟨k, h⟩ | ⟨k, h⟩ | ⟨k, h⟩ | ⟨k, h⟩ | ⟨k, h⟩ <;> simp [cl, k] <;> exact h
theorem head_of {v : TValue} (h : Nd v) : ∃ c r, wr v = c :: r ∧ fc c = cl v := by
 obtain ⟨s1, s2, s3, s4, s5⟩ := shape_of h
 have hc : cl v = 0 ∨ cl v = 1 ∨ cl v = 2 ∨ cl v = 3 ∨ cl v = 4 := by omega
 rcases hc with e | e | e | e | e
 ·rw [e]; exact (word_chars h e).2
 ·rw [e, (s1 e).2.1]; exact (itoa_num _).2
 ·rw [e, (s2 e).2.1]; exact ⟨_, _, rfl, by decide +kernel⟩
 ·rw [e, (s3 e).2.1]; exact ⟨_, _, rfl, by decide +kernel⟩
 ·rw [e, (s4 e).2.1]; exact ⟨_, _, rfl, by decide +kernel⟩
theorem tail_st {l : List Bs} {x : Bs} (hx : St x) : St (Lib.joinTail sepB l ++ x) := by
 cases l with
 | nil => exact hx
 | cons a r => rw [tail_cons]; exact .inr ⟨44, _, rfl, by decide +kernel⟩
def Inj (n : Nat) : Prop := ∀ v u x y, Pl n v → Pl n u → St x → St y → wr v ++ x = wr u ++ y → Sm n v u ∧ x = y
theorem st93 (x : Bs) : St (93 :: x) := .inr ⟨93, x, rfl, by decide +kernel⟩
theorem list_tail {n : Nat} (ih : Inj n) : ∀ (l m : List TValue) (x y : Bs), (∀ a ∈ l, Pl n a) → (∀ a ∈ m, Pl n a) → Lib.joinTail sepB (l.map wr) ++ 93 :: x = Lib.joinTail sepB (m.map wr) ++ 93 :: y → All2 (Sm n) l m ∧ x = y
 | [], [], x, y, _, _, h => by simp [Lib.joinTail] at h; exact ⟨.nil, h⟩
 | [], b :: t, x, y, _, _, h => by rw [List.map_cons, tail_cons] at h; simp [Lib.joinTail, sepB] at h
 | a :: r, [], x, y, _, _, h => by rw [List.map_cons, tail_cons] at h; simp [Lib.joinTail, sepB] at h
 | a :: r, b :: t, x, y, ha, hb, h => by
  rw [List.map_cons, List.map_cons, tail_cons, tail_cons, List.append_assoc, List.append_assoc, List.append_assoc, List.append_assoc] at h
  obtain ⟨e1, e2⟩ := ih a b _ _ (ha a (by simp)) (hb b (by simp)) (tail_st (st93 _)) (tail_st (st93 _)) (List.append_cancel_left h)
  obtain ⟨e3, e4⟩ := list_tail ih r t x y (fun a h => ha a (by simp [h])) (fun a h => hb a (by simp [h])) e2
  exact ⟨.cons e1 e3, e4⟩
theorem list_join {n : Nat} (ih : Inj n) (hnd : ∀ v, Pl n v → Nd v) (l m : List TValue) (x y : Bs) (hl : ∀ a ∈ l, Pl n a) (hm : ∀ a ∈ m, Pl n a) (h : Lib.join (l.map wr) sepB ++ 93 :: x = Lib.join (m.map wr) sepB ++ 93 :: y) : All2 (Sm n) l m ∧ x = y := by
 have hno : ∀ (a : TValue) (z : Bs) (w : Bs), Pl n a → wr a ++ z = 93 :: w → False := by
  intro a z w hp h
  obtain ⟨c, r, e, hf⟩ := head_of (hnd a hp)
  have := (shape_of (hnd a hp)).2.2.2.2
  rw [e] at h
  simp only [List.cons_append, List.cons.injEq] at h
  rw [h.1, show fc 93 = 5 by decide +kernel] at hf
  omega
 cases l with
 | nil =>
  cases m with
  | nil => simp [Lib.join_nil] at h; exact ⟨.nil, h⟩
  | cons b t => rw [List.map_cons, Lib.join_cons, List.append_assoc] at h; exact (hno b _ _ (hm b (by simp)) h.symm).elim
 | cons a r =>
  cases m with
  | nil => rw [List.map_cons, Lib.join_cons, List.append_assoc] at h; exact (hno a _ _ (hl a (by simp)) h).elim
  | cons b t =>
   rw [List.map_cons, List.map_cons, Lib.join_cons, Lib.join_cons, List.append_assoc, List.append_assoc] at h
   obtain ⟨e1, e2⟩ := ih a b _ _ (hl a (by simp)) (hm b (by simp)) (tail_st (st93 _)) (tail_st (st93 _)) h
   obtain ⟨e3, e4⟩ := list_tail ih r t x y (fun a h => hl a (by simp [h])) (fun a h => hm a (by simp [h])) e2
   exact ⟨.cons e1 e3, e4⟩
def pw (p : Bs × TValue) : Bs := pairB p.1 (wr p.2)
theorem zip_pw : ∀ (ks : List Bs) (ws : List TValue), List.zipWith pairB ks (ws.map wr) = (ks.zip ws).map pw
 | [], _ => by simp
 | _ :: _, [] => by simp
 | a :: r, b :: t => by simp [zip_pw r t, pw]
def En (x : Bs) : Prop := x = [] ∨ ∃ r, x = 125 :: r
theorem En.st {x : Bs} (h : En x) : St x := by
 rcases h with h | ⟨r, h⟩
 ·exact .inl h
 ·exact .inr ⟨125, r, h, by decide +kernel⟩
def PR (n : Nat) (p q : Bs × TValue) : Prop := p.1 = q.1 ∧ Sm n p.2 q.2
theorem pair_inj {n : Nat} (ih : Inj n) {p q : Bs × TValue} {x y : Bs} (hp : Z19_q p.1 = true ∧ Pl n p.2) (hq : Z19_q q.1 = true ∧ Pl n q.2) (hx : St x) (hy : St y) (h : pw p ++ x = pw q ++ y) : PR n p q ∧ x = y := by
 unfold pw pairB at h
 simp only [List.append_assoc] at h
 have hst : ∀ (z : Bs) (c : UInt8) (r : Bs), [58, 32] ++ z = c :: r → nameC c = false := by
  intro z c r h
  simp only [List.cons_append, List.cons.injEq] at h
  rw [← h.1]; decide +kernel
 obtain ⟨e1, e2⟩ := run_eq nameC _ _ _ _ (name_is hp.1).1 (name_is hq.1).1 (hst _) (hst _) h
 obtain ⟨e3, e4⟩ := ih _ _ _ _ hp.2 hq.2 hx hy (List.append_cancel_left e2)
 exact ⟨⟨e1, e3⟩, e4⟩
theorem pair_no {n : Nat} {p : Bs × TValue} (hp : Z19_q p.1 = true ∧ Pl n p.2) {x y : Bs} (hy : En y) (h : pw p ++ x = y) : False := by
 obtain ⟨h1, c, r, e, _⟩ := name_is hp.1
 unfold pw pairB at h
 rw [e] at h
 rcases hy with rfl | ⟨t, rfl⟩
 ·cases h
 ·simp only [List.cons_append, List.cons.injEq] at h
  exact name_fc c (h1 c (by rw [e]; simp)) h.1
theorem pairs_tail {n : Nat} (ih : Inj n) : ∀ (l m : List (Bs × TValue)) (x y : Bs), En x → En y → (∀ p ∈ l, Z19_q p.1 = true ∧ Pl n p.2) → (∀ p ∈ m, Z19_q p.1 = true ∧ Pl n p.2) → Lib.joinTail sepB (l.map pw) ++ x = Lib.joinTail sepB (m.map pw) ++ y → All2 (PR n) l m ∧ x = y
 | [], [], x, y, _, _, _, _, h => by simp [Lib.joinTail] at h; exact ⟨.nil, h⟩
 | [], b :: t, x, y, hx, _, _, _, h => by
  rw [List.map_cons, tail_cons] at h
  rcases hx with rfl | ⟨r, rfl⟩ <;> simp [Lib.joinTail, sepB] at h
 | a :: r, [], x, y, _, hy, _, _, h => by
  rw [List.map_cons, tail_cons] at h
  rcases hy with rfl | ⟨r, rfl⟩ <;> simp [Lib.joinTail, sepB] at h
 | a :: r, b :: t, x, y, hx, hy, ha, hb, h => by
  rw [List.map_cons, List.map_cons, tail_cons, tail_cons, List.append_assoc, List.append_assoc, List.append_assoc, List.append_assoc] at h
  obtain ⟨e1, e2⟩ := pair_inj ih (ha a (by simp)) (hb b (by simp)) (tail_st hx.st) (tail_st hy.st) (List.append_cancel_left h)
  obtain ⟨e3, e4⟩ := pairs_tail ih r t x y hx hy (fun a h => ha a (by simp [h])) (fun a h => hb a (by simp [h])) e2
  exact ⟨.cons e1 e3, e4⟩
theorem pairs_join {n : Nat} (ih : Inj n) (l m : List (Bs × TValue)) (x y : Bs) (hx : En x) (hy : En y) (hl : ∀ p ∈ l, Z19_q p.1 = true ∧ Pl n p.2) (hm : ∀ p ∈ m, Z19_q p.1 = true ∧ Pl n p.2) (h : Lib.join (l.map pw) sepB ++ x = Lib.join (m.map pw) sepB ++ y) : All2 (PR n) l m ∧ x = y := by
 cases l with
 | nil =>
  cases m with
  | nil => simp [Lib.join_nil] at h; exact ⟨.nil, h⟩
  | cons b t => rw [List.map_cons, Lib.join_cons, List.append_assoc] at h; exact (pair_no (hm b (by simp)) hx (h.symm.trans (by simp [Lib.join_nil]))).elim
 | cons a r =>
  cases m with
  | nil => rw [List.map_cons, Lib.join_cons, List.append_assoc] at h; exact (pair_no (hl a (by simp)) hy (h.trans (by simp [Lib.join_nil]))).elim
  | cons b t =>
   rw [List.map_cons, List.map_cons, Lib.join_cons, Lib.join_cons, List.append_assoc, List.append_assoc] at h
   obtain ⟨e1, e2⟩ := pair_inj ih (hl a (by simp)) (hm b (by simp)) (tail_st hx.st) (tail_st hy.st) h
   obtain ⟨e3, e4⟩ := pairs_tail ih r t x y hx hy (fun a h => hl a (by simp [h])) (fun a h => hm a (by simp [h])) e2
   exact ⟨.cons e1 e3, e4⟩
theorem all2_zip {n : Nat} : ∀ (ks ks' : List Bs) (ws ws' : List TValue), ks.length = ws.length → ks'.length = ws'.length → All2 (PR n) (ks.zip ws) (ks'.zip ws') → ks = ks' ∧ All2 (Sm n) ws ws'
 | [], [], [], [], _, _, _ => ⟨rfl, .nil⟩
 | [], _ :: _, [], _ :: _, _, _, h => by cases h
 | _ :: _, [], _ :: _, [], _, _, h => by cases h
 | a :: r, b :: t, c :: u, d :: w, h1, h2, h => by
  simp only [List.zip_cons_cons] at h
  cases h with
  | cons h h' =>
  obtain ⟨e1, e2⟩ := all2_zip r t u w (by simpa using h1) (by simpa using h2) h'
  exact ⟨by have h3 : a = b := h.1; rw [h3, e1], .cons h.2 e2⟩
theorem inj (n : Nat) : Inj n := by
 induction n with
 | zero => intro v u x y h; exact h.elim
 | succ n ih =>
  intro v u x y hv hu hx hy h
  obtain ⟨nv, kv, iv⟩ := hv
  obtain ⟨nu, ku, iu⟩ := hu
  have hcl : cl v = cl u := by
   obtain ⟨c, r, e1, f1⟩ := head_of nv
   obtain ⟨d, t, e2, f2⟩ := head_of nu
   rw [e1, e2] at h
   simp only [List.cons_append, List.cons.injEq] at h
   rw [← f1, ← f2, h.1]
  obtain ⟨s1, s2, s3, s4, s5⟩ := shape_of nv
  obtain ⟨t1, t2, t3, t4, _⟩ := shape_of nu
  have hc : cl v = 0 ∨ cl v = 1 ∨ cl v = 2 ∨ cl v = 3 ∨ cl v = 4 := by omega
  rcases hc with e | e | e | e | e
  ·have e' : cl u = 0 := by rw [← hcl, e]
   obtain ⟨e1, e2⟩ := run_eq nameC _ _ _ _ (word_chars nv e).1 (word_chars nu e').1 hx.name hy.name h
   refine ⟨?_, e2⟩
   have key : v.FKind = u.FKind ∧ v.FInt = u.FInt ∧ v.FText = u.FText := by
    have fv : (v.FKind = 0 → v.FInt = 0 ∧ v.FText = []) ∧ (v.FKind = 1 → v.FText = []) ∧ (v.FKind = 4 → v.FInt = 0) := by
     rcases nv with ⟨k, h⟩ | ⟨k, h⟩ | ⟨k, h⟩ | ⟨k, h⟩ | ⟨k, h⟩ | ⟨k, h⟩ | ⟨k, h⟩ <;> simp [k] <;> simp [h]
    have fu : (u.FKind = 0 → u.FInt = 0 ∧ u.FText = []) ∧ (u.FKind = 1 → u.FText = []) ∧ (u.FKind = 4 → u.FInt = 0) := by
     rcases nu with ⟨k, h⟩ | ⟨k, h⟩ | ⟨k, h⟩ | ⟨k, h⟩ | ⟨k, h⟩ | ⟨k, h⟩ | ⟨k, h⟩ <;> simp [k] <;> simp [h]
    rcases word_of nv e with ⟨k, a⟩ | ⟨k, i, a⟩ | ⟨k, i, a⟩ | ⟨k, a, _, b1, b2, b3⟩ <;> rcases word_of nu e' with ⟨k', a'⟩ | ⟨k', i', a'⟩ | ⟨k', i', a'⟩ | ⟨k', a', _, b1', b2', b3'⟩ <;> rw [a, a'] at e1
    ·exact ⟨by rw [k, k'], by rw [(fv.1 k).1, (fu.1 k').1], by rw [(fv.1 k).2, (fu.1 k').2]⟩
    ·exact absurd e1 (by decide)
    ·exact absurd e1 (by decide)
    ·exact absurd e1.symm b3'
    ·exact absurd e1 (by decide)
    ·exact ⟨by rw [k, k'], by rw [i, i'], by rw [fv.2.1 k, fu.2.1 k']⟩
    ·exact absurd e1 (by decide)
    ·exact absurd e1.symm b2'
    ·exact absurd e1 (by decide)
    ·exact absurd e1 (by decide)
    ·exact ⟨by rw [k, k'], by rw [i, i'], by rw [fv.2.1 k, fu.2.1 k']⟩
    ·exact absurd e1.symm b1'
    ·exact absurd e1 b3
    ·exact absurd e1 b2
    ·exact absurd e1 b1
    ·exact ⟨by rw [k, k'], by rw [fv.2.2 k, fu.2.2 k'], e1⟩
   have lv : v.FItems.l = [] ∧ v.FKeys.l = [] := by
    rcases nv with ⟨k, h⟩ | ⟨k, h⟩ | ⟨k, h⟩ | ⟨k, h⟩ | ⟨k, h⟩ | ⟨k, h⟩ | ⟨k, h⟩ <;> first | (simp [cl, k] at e; done) | simp [h]
   have lu : u.FItems.l = [] ∧ u.FKeys.l = [] := by
    rcases nu with ⟨k, h⟩ | ⟨k, h⟩ | ⟨k, h⟩ | ⟨k, h⟩ | ⟨k, h⟩ | ⟨k, h⟩ | ⟨k, h⟩ <;> first | (simp [cl, k] at e'; done) | simp [h]
   exact ⟨key.1, key.2.1, key.2.2, by rw [lv.2, lu.2], by rw [lv.1, lu.1]; exact .nil⟩
  ·obtain ⟨a1, a2, a3, a4, a5⟩ := s1 e
   obtain ⟨b1, b2, b3, b4, b5⟩ := t1 (by rw [← hcl, e])
   rw [a2, b2] at h
   obtain ⟨e1, e2⟩ := run_eq numC _ _ _ _ (itoa_num _).1 (itoa_num _).1 hx.num hy.num h
   exact ⟨⟨by rw [a1, b1], itoa_inj e1, by rw [a3, b3], by rw [a5, b5], by rw [a4, b4]; exact .nil⟩, e2⟩
  ·obtain ⟨a1, a2, a3, a4, a5⟩ := s2 e
   obtain ⟨b1, b2, b3, b4, b5⟩ := t2 (by rw [← hcl, e])
   rw [a2, b2] at h
   obtain ⟨e1, e2⟩ := qt_inj h
   exact ⟨⟨by rw [a1, b1], by rw [a3, b3], e1, by rw [a5, b5], by rw [a4, b4]; exact .nil⟩, e2⟩
  ·obtain ⟨a1, a2, a3, a4, a5⟩ := s3 e
   obtain ⟨b1, b2, b3, b4, b5⟩ := t3 (by rw [← hcl, e])
   rw [a2, b2] at h
   simp only [List.cons_append, List.append_assoc, List.cons.injEq, true_and, List.nil_append] at h
   have hnd : ∀ v, Pl n v → Nd v := fun v h => by
    cases n with
    | zero => exact h.elim
    | succ n => exact h.1
   obtain ⟨e1, e2⟩ := list_join ih hnd _ _ _ _ iv iu h
   exact ⟨⟨by rw [a1, b1], by rw [a3, b3], by rw [a4, b4], by rw [a5, b5], e1⟩, e2⟩
  ·obtain ⟨a1, a2, a3, a4, a5⟩ := s4 e
   obtain ⟨b1, b2, b3, b4, b5⟩ := t4 (by rw [← hcl, e])
   rw [a2, b2, zip_pw, zip_pw] at h
   simp only [List.cons_append, List.append_assoc, List.cons.injEq, true_and, List.nil_append] at h
   have hzv : ∀ p ∈ v.FKeys.l.zip v.FItems.l, Z19_q p.1 = true ∧ Pl n p.2 := fun p hp => ⟨kv _ (List.of_mem_zip hp).1, iv _ (List.of_mem_zip hp).2⟩
   have hzu : ∀ p ∈ u.FKeys.l.zip u.FItems.l, Z19_q p.1 = true ∧ Pl n p.2 := fun p hp => ⟨ku _ (List.of_mem_zip hp).1, iu _ (List.of_mem_zip hp).2⟩
   obtain ⟨e1, e2⟩ := pairs_join ih _ _ _ _ (.inr ⟨x, rfl⟩) (.inr ⟨y, rfl⟩) hzv hzu h
   simp only [List.cons.injEq, true_and] at e2
   obtain ⟨e3, e4⟩ := all2_zip _ _ _ _ a5 b5 e1
   exact ⟨⟨by rw [a1, b1], by rw [a3, b3], by rw [a4, b4], e3, e4⟩, e2⟩
end Go.Proofs

namespace Go.Proofs
open Go Go.Ab
set_option maxRecDepth 100000 in
theorem example12 : Z17 = some true := by kernel_rfl
theorem gT {α β : Type} (o : Option α) (d : α) (k : α → Option β) : guardO true o d k = o.bind k := rfl
theorem gF {α β : Type} (o : Option α) (d : α) (k : α → Option β) : guardO false o d k = k d := rfl
def aw (t : TArg) : Bs := pw (t.FName, t.FValue)
def T (a : Sl TArg) : Bs := Lib.join (a.l.map aw) sepB
theorem aw_len {a : TArg} (h : a.FValue.wf) : (aw a).length + 2 ≤ 32 * a.sz := by
 have h1 := wr_len (a.FValue.sz + 1) a.FValue (by omega) h
 have h2 := a.sz_def
 have h3 : Bs.sz a.FName = a.FName.length + 1 := rfl
 have h4 : (aw a).length = a.FName.length + 2 + (wr a.FValue).length := by simp [aw, pw, pairB]; omega
 omega
theorem rtext_loop : ∀ (l : List TArg) (i : Nat) (o : Bs), (∀ a ∈ l, a.FValue.sz ≤ 1048576 ∧ a.FValue.wf) → o.length + (l.map fun x => (aw x).length + 2).sum ≤ 1099511627776 →
  Z35_q7 l i o = some (o ++ if i = 0 then Lib.join (l.map aw) sepB else Lib.joinTail sepB (l.map aw)) := by
 intro l
 induction l with
 | nil => intro i o _ _; rw [Z35_q7]; split <;> simp [Lib.join_nil, Lib.joinTail]
 | cons a r ih =>
  intro i o hx h
  have h4 : (aw a).length = a.FName.length + 2 + (wr a.FValue).length := by simp [aw, pw, pairB]; omega
  simp only [List.map_cons, List.sum_cons, h4] at h
  rw [Z35_q7]
  simp only [Ab.on]
  have ha := rwrite_eq (hx a (by simp)).1 (hx a (by simp)).2
  have hr := fun x hx' => hx x (List.mem_cons_of_mem _ hx')
  by_cases hi : i = 0
  ·rw [show decide ((0 : Int) < ((i : Nat) : Int)) = false from decide_eq_false (by omega), cond_false, Option.bind_some, catC_ok (by omega), Option.bind_some, catC_ok (by simp only [List.length_append, List.length_cons, List.length_nil]; omega), Option.bind_some, ha, Option.bind_some, catC_ok (by simp only [List.length_append, List.length_cons, List.length_nil]; omega), Option.bind_some, ih (i + 1) _ hr (by simp only [List.length_append, List.length_cons, List.length_nil]; omega), if_neg (by omega), if_pos hi, List.map_cons, Lib.join_cons]
   simp [aw, pw, pairB]
  ·rw [show decide ((0 : Int) < ((i : Nat) : Int)) = true from decide_eq_true (by omega), cond_true, catC_ok (by simp only [List.length_cons, List.length_nil]; omega), Option.bind_some, Option.bind_some, catC_ok (by simp only [List.length_append, List.length_cons, List.length_nil]; omega), Option.bind_some, catC_ok (by simp only [List.length_append, List.length_cons, List.length_nil]; omega), Option.bind_some, ha, Option.bind_some, catC_ok (by simp only [List.length_append, List.length_cons, List.length_nil]; omega), Option.bind_some, ih (i + 1) _ hr (by simp only [List.length_append, List.length_cons, List.length_nil]; omega), if_neg (by omega), if_neg hi, List.map_cons, tail_cons]
   simp [aw, pw, pairB, sepB]
theorem ttext_loop : ∀ (l : List TArg) (s : Sl Bs), (∀ a ∈ l, a.FValue.sz ≤ 1048576 ∧ a.FValue.wf ∧ (aw a).length ≤ 1099511627) → s.l.length + l.length ≤ 1099511627 → ∃ t : Sl Bs, Z3_q9 l s = some t ∧ t.l = s.l ++ l.map aw := by
 intro l
 induction l with
 | nil => intro s _ _; exact ⟨s, rfl, by simp⟩
 | cons a r ih =>
  intro s hx h
  simp only [List.length_cons] at h
  obtain ⟨h1, h2, h3⟩ := hx a (by simp)
  have h4 : (aw a).length = a.FName.length + 2 + (wr a.FValue).length := by simp [aw, pw, pairB]; omega
  rw [Z3_q9]
  simp only [Ab.on]
  rw [catC_ok (by simp only [List.length_cons, List.length_nil]; omega), Option.bind_some, twrite_eq h1 h2, Option.bind_some, catC_ok (by simp only [List.length_append, List.length_cons, List.length_nil]; omega), Option.bind_some, appC_ok (by decide) (by show s.l.length + 1 ≤ _; omega), Option.bind_some]
  obtain ⟨t, e1, e2⟩ := ih ⟨s.nl && false, s.l ++ [a.FName ++ [58, 32] ++ wr a.FValue]⟩ (fun x hx' => hx x (by simp [hx'])) (by simp; omega)
  exact ⟨t, e1, by rw [e2]; simp [aw, pw, pairB]⟩
theorem args_count (l : List TArg) : l.length ≤ (l.map TArg.sz).sum := by
 induction l with
 | nil => simp
 | cons a r ih => have := a.pos; simp only [List.length_cons, List.map_cons, List.sum_cons]; omega
theorem texts {a : Sl TArg} (hs : Sl.sz TArg.sz a ≤ 1048576) (hw : Sl.wf TArg.wf a) : Z3 a = some (T a) ∧ Z35 a = some (T a) := by
 have hsum : Sl.sz TArg.sz a = 1 + (a.l.map TArg.sz).sum := rfl
 have hel : ∀ x ∈ a.l, x.FValue.sz ≤ 1048576 ∧ x.FValue.wf := fun x hx => ⟨by have := Sl.mem_le (f := TArg.sz) hx; have := x.sz_def; omega, TArg.FValue_wf (hw.2.2 x hx)⟩
 have hlen : (a.l.map fun x => (aw x).length + 2).sum ≤ 32 * (a.l.map TArg.sz).sum := by
  rw [← mul_sum]; exact sum_le _ _ _ fun x hx => aw_len (hel x hx).2
 have hj := join_len (a.l.map aw)
 rw [List.map_map] at hj
 have hj' : (Lib.join (a.l.map aw) sepB).length ≤ (a.l.map fun x => (aw x).length + 2).sum := hj
 have hc := args_count a.l
 constructor
 ·rw [Z3_eq]
  unfold Z3_q
  obtain ⟨t, e1, e2⟩ := ttext_loop a.l (Sl.nil : Sl Bs) (fun x hx => ⟨(hel x hx).1, (hel x hx).2, by have := aw_len (hel x hx).2; have := Sl.mem_le (f := TArg.sz) hx; omega⟩) (by simp [Sl.nil]; omega)
  rw [e1, Option.bind_some]
  simp only [Ab.on]
  obtain ⟨nl, l⟩ := t
  have e2' : l = a.l.map aw := by simpa [Sl.nil] using e2
  subst e2'
  rw [show Z55_q ⟨nl, a.l.map aw⟩ ([44, 32] : Bs) = some (Lib.join (a.l.map aw) sepB) from join_eq nl _ ⟨by rw [List.length_map]; omega, by omega⟩]; rfl
 ·rw [Z35_eq]
  unfold Z35_q
  rw [rtext_loop a.l 0 [] hel (by simp only [List.length_nil]; omega), Option.bind_some, if_pos rfl]
  rfl
def PlA (n : Nat) (t : TArg) : Prop := Z19_q t.FName = true ∧ Pl n t.FValue
def objV (t : TArg) : TValue := TValue.mk (6 : Int) (0 : Int) ([] : Bs) ((⟨false, [t.FValue]⟩ : Sl TValue).nl) ((⟨false, [t.FValue]⟩ : Sl TValue).l) (⟨false, [t.FName]⟩ : Sl Bs)
theorem literal_okB (v : TValue) (h : v.sz ≤ 1073741824) : Ok (Z27_q v) ∧ Ok (Z28_q v) := by
 obtain ⟨r, hr, _⟩ := Z29_tot F0 v (by rw [F0_eq]; omega) h
 obtain ⟨d, hd, _⟩ := Z26_tot F0 v (by rw [F0_eq]; omega) h
 have hr' : Z29_q v = some r := hr
 have hd' : Z26_q v = some d := hd
 obtain ⟨w1, e1⟩ := Z32_tot F0 v true (by rw [F0_eq]; omega)
 obtain ⟨w2, e2⟩ := Z32_tot F0 v false (by rw [F0_eq]; omega)
 have e1' : Z32_q v true = some w1 := e1
 have e2' : Z32_q v false = some w2 := e2
 constructor
 ·unfold Z27_q
  rw [hr', hd', e1', Option.bind_some]
  cases decide (r ≤ 4096) with
  | false => exact ⟨_, rfl⟩
  | true =>
   simp only [gT, Option.bind_some, Bool.true_and]
   cases decide (d ≤ 24) <;> exact ⟨_, rfl⟩
 ·unfold Z28_q
  rw [hr', hd', e2', Option.bind_some]
  cases decide (r ≤ 4096) with
  | false => exact ⟨_, rfl⟩
  | true =>
   simp only [gT, Option.bind_some, Bool.true_and]
   cases decide (d ≤ 24) <;> exact ⟨_, rfl⟩
theorem F0_succ : ∃ m, F0 = m + 1 := ⟨F0 - 1, by rw [F0_eq]⟩
theorem plain_of {t : TArg} {m : Nat} (hm : F0 = m + 1) (h1 : Z27_q (objV t) = some true) (h2 : Z28_q (objV t) = some true) : PlA m t := by
 have a := literal_is h1
 have b := right_is h2
 rw [hm] at a b
 obtain ⟨_, a2, a3⟩ := whole_step a
 obtain ⟨_, _, b3⟩ := whole_step b
 exact ⟨a2 rfl t.FName (by simp [objV, TValue.FKeys]), pl_of m t.FValue (a3 _ (by simp [objV, TValue.FItems])) (b3 _ (by simp [objV, TValue.FItems]))⟩
def RA (n : Nat) (p q : TArg) : Prop := p.FName = q.FName ∧ Sm n p.FValue q.FValue
theorem sm_succ (n : Nat) : ∀ v w : TValue, Sm n v w → Sm (n + 1) v w := by
 induction n with
 | zero => intro v w h; exact h.elim
 | succ n ih =>
  intro v w ⟨h1, h2, h3, h4, h5⟩
  exact ⟨h1, h2, h3, h4, h5.imp fun a b h => ih a b h⟩
theorem same_false (a b : Sl TArg) (s5 : Bool) (x y : Bs) (n : Nat) (i : Int) : Z16_l28 a b s5 x y (n + 1) false i = Z16_j23 s5 x y false := by
 rw [Z16_l28]; rfl
theorem same_loop (a b : Sl TArg) (s5 : Bool) (x y : Bs) (hlen : a.l.length = b.l.length) (hla : a.l.length ≤ 1048576) (hs : ∀ t ∈ a.l, t.FValue.sz ≤ 1048576) : ∀ (n i : Nat), a.l.length + 1 < n + i → i ≤ a.l.length →
  ∃ z, Z16_l28 a b s5 x y n true (i : Int) = Z16_j23 s5 x y z ∧ (z = true ↔ All2 (RA F0) (a.l.drop i) (b.l.drop i)) := by
 intro n
 induction n with
 | zero => intro i h1 h2; omega
 | succ n ih =>
  intro i h1 h2
  rw [Z16_l28]
  by_cases hi : i < a.l.length
  ·have hi2 : i < b.l.length := by omega
   have e1 : idxC a.l (i : Int) = some a.l[i] := by unfold idxC; rw [if_pos (by omega), Int.toNat_natCast, List.getElem?_eq_getElem hi]
   have e2 : idxC b.l (i : Int) = some b.l[i] := by unfold idxC; rw [if_pos (by omega), Int.toNat_natCast, List.getElem?_eq_getElem hi2]
   rw [show (true && decide (((i : Nat) : Int) < ((a.l.length : Nat) : Int))) = true by simp; omega, cond_true, e1, Option.bind_some, e2, Option.bind_some, List.drop_eq_getElem_cons hi, List.drop_eq_getElem_cons hi2]
   obtain ⟨m, rfl⟩ : ∃ m, n = m + 1 := ⟨n - 1, by omega⟩
   by_cases hn : a.l[i].FName = b.l[i].FName
   ·rw [beq_iff_eq.2 hn]
    simp only [gT, Option.bind_some]
    obtain ⟨z, e3, e4⟩ := equal_eq (v := a.l[i].FValue) (w := b.l[i].FValue) (hs _ (List.getElem_mem hi))
    rw [Z33_eq, e3, Option.bind_some, addC_ok (by omega), Option.bind_some]
    cases z with
    | false =>
     refine ⟨false, same_false a b s5 x y m _, ⟨fun h => (by cases h), fun h => ?_⟩⟩
     cases h with | cons h _ => have := e4.2 h.2; cases this
    | true =>
     obtain ⟨z, e5, e6⟩ := ih (i + 1) (by omega) (by omega)
     refine ⟨z, e5, e6.trans ⟨fun h => .cons ⟨hn, e4.1 rfl⟩ h, fun h => ?_⟩⟩
     cases h with | cons _ h => exact h
   ·rw [show (a.l[i].FName == b.l[i].FName) = false by simpa using hn]
    simp only [gF]
    rw [addC_ok (by omega), Option.bind_some]
    refine ⟨false, same_false a b s5 x y m _, ⟨fun h => (by cases h), fun h => ?_⟩⟩
    cases h with | cons h _ => exact absurd h.1 hn
  ·rw [show (true && decide (((i : Nat) : Int) < ((a.l.length : Nat) : Int))) = false by simp; omega, cond_false, List.drop_of_length_le (by omega), List.drop_of_length_le (by omega)]
   exact ⟨true, rfl, ⟨fun _ => .nil, fun _ => rfl⟩⟩
theorem inj_args {m : Nat} {a b : Sl TArg} (ha : ∀ t ∈ a.l, PlA m t) (hb : ∀ t ∈ b.l, PlA m t) (h : T a = T b) : All2 (RA m) a.l b.l := by
 have key : ∀ l : List TArg, l.map aw = (l.map fun t => (t.FName, t.FValue)).map pw := fun l => by rw [List.map_map]; rfl
 unfold T at h
 rw [key, key] at h
 have hA : ∀ p ∈ (a.l.map fun t => (t.FName, t.FValue)), Z19_q p.1 = true ∧ Pl m p.2 := by
  intro p hp
  obtain ⟨t, ht, rfl⟩ := List.mem_map.1 hp
  exact ha t ht
 have hB : ∀ p ∈ (b.l.map fun t => (t.FName, t.FValue)), Z19_q p.1 = true ∧ Pl m p.2 := by
  intro p hp
  obtain ⟨t, ht, rfl⟩ := List.mem_map.1 hp
  exact hb t ht
 obtain ⟨e1, _⟩ := pairs_join (inj m) _ _ [] [] (.inl rfl) (.inl rfl) hA hB (by rw [List.append_nil, List.append_nil]; exact h)
 have back : ∀ l m' : List TArg, All2 (PR m) (l.map fun t => (t.FName, t.FValue)) (m'.map fun t => (t.FName, t.FValue)) → All2 (RA m) l m' := by
  intro l
  induction l with
  | nil =>
   intro m' h
   cases m' with
   | nil => exact .nil
   | cons b t => cases h
  | cons a r ih =>
   intro m' h
   cases m' with
   | nil => cases h
   | cons b t =>
    simp only [List.map_cons] at h
    cases h with
    | cons h h' => exact .cons ⟨h.1, h.2⟩ (ih t h')
 exact back _ _ e1
theorem T_of {n : Nat} {a b : Sl TArg} (h : All2 (RA n) a.l b.l) : T a = T b := by
 unfold T
 rw [all2_map h fun p _ q hpq => by unfold aw pw; simp only; rw [hpq.1, sm_wr n _ _ hpq.2]]
theorem j23_true {s5 : Bool} {x y : Bs} {z : Bool} (h : s5 = true → (x == y) = z) : Z16_j23 s5 x y z = some true := by
 unfold Z16_j23
 have : ((!s5) || ((x == y) == z)) = true := by
  cases s5 with
  | false => rfl
  | true => rw [h rfl]; simp
 rw [this, gT, example12]; rfl
theorem j9_true (a b : Sl TArg) (s5 : Bool) (m : Nat) (hm : F0 = m + 1) (hs : Sl.sz TArg.sz a + Sl.sz TArg.sz b ≤ 1048576) (hwa : Sl.wf TArg.wf a) (hwb : Sl.wf TArg.wf b) (hp : s5 = true → ∀ t ∈ a.l ++ b.l, PlA m t) : Z16_j9 a b s5 = some true := by
 obtain ⟨a1, a2⟩ := texts (a := a) (by omega) hwa
 obtain ⟨b1, b2⟩ := texts (a := b) (by omega) hwb
 have hla : a.l.length ≤ 1048576 := by have := args_count a.l; have hsum : Sl.sz TArg.sz a = 1 + (a.l.map TArg.sz).sum := rfl; omega
 have hsa : ∀ t ∈ a.l, t.FValue.sz ≤ 1048576 := fun t ht => by have := Sl.mem_le (f := TArg.sz) ht; have := t.sz_def; omega
 unfold Z16_j9
 rw [a1, b1, a2, b2]
 simp only [Option.bind_some, beq_self_eq_true, Bool.not_true, Bool.not_false, gT, Bool.or_false, cond_false]
 obtain ⟨k, hk⟩ := F0_succ
 by_cases hl : a.l.length = b.l.length
 ·rw [show decide (((a.l.length : Nat) : Int) = ((b.l.length : Nat) : Int)) = true from decide_eq_true (by omega)]
  obtain ⟨z, e1, e2⟩ := same_loop a b s5 (T a) (T b) hl hla hsa F0 0 (by rw [F0_eq]; omega) (by omega)
  refine Eq.trans e1 (j23_true fun hs5 => ?_)
  simp only [List.drop_zero] at e2
  cases z with
  | true => exact beq_iff_eq.2 (T_of (e2.1 rfl))
  | false =>
   rw [beq_eq_false_iff_ne]
   intro h
   have h1 := inj_args (fun t ht => hp hs5 t (List.mem_append_left _ ht)) (fun t ht => hp hs5 t (List.mem_append_right _ ht)) h
   have h2 : All2 (RA F0) a.l b.l := by rw [hm]; exact h1.imp fun _ _ h => ⟨h.1, sm_succ m _ _ h.2⟩
   have := e2.2 h2; cases this
 ·rw [show decide (((a.l.length : Nat) : Int) = ((b.l.length : Nat) : Int)) = false from decide_eq_false (by omega), hk, same_false]
  refine j23_true fun hs5 => ?_
  rw [beq_eq_false_iff_ne]
  intro h
  exact hl (inj_args (fun t ht => hp hs5 t (List.mem_append_left _ ht)) (fun t ht => hp hs5 t (List.mem_append_right _ ht)) h).length
theorem objV_sz (t : TArg) : (objV t).sz ≤ t.sz + 16 := by
 have h1 := (objV t).sz_def
 have h2 := t.sz_def
 have h3 : Sl.sz TValue.sz (objV t).FItems = 1 + (t.FValue.sz + 0) := rfl
 have h4 : Sl.sz Bs.sz (objV t).FKeys = 1 + (Bs.sz t.FName + 0) := rfl
 have h5 : Bs.sz (objV t).FText = 1 := rfl
 omega
theorem j55_true {m : Nat} (hm : F0 = m + 1) {t : TArg} (hs : t.sz ≤ 1048576) {s5 : Bool} {i : Int} {k : Bool → Int → Option Bool} (hi : 0 ≤ i ∧ i ≤ 1048576) (hk : ∀ s, (s = true → s5 = true ∧ PlA m t) → k s (i + 1) = some true) : Z16_j55 s5 i k t = some true := by
 have hd := t.sz_def
 have ho := objV_sz t
 unfold Z16_j55
 obtain ⟨w, e, _⟩ := value_W 300 t.FValue (by omega)
 rw [Z34_eq, e, Option.bind_some]
 cases decide ((300 : Int) < w) with
 | true => rw [cond_true, example12]; rfl
 | false =>
  rw [cond_false]
  obtain ⟨⟨x, e1⟩, ⟨y, e2⟩⟩ := literal_okB (objV t) (by omega)
  have j51 : ∀ s, Z16_j51 i k s = k s (i + 1) := fun s => by unfold Z16_j51; rw [addC_ok (by omega)]; rfl
  have e1' : Z27 (TValue.mk (6 : Int) (0 : Int) ([] : Bs) ((⟨false, [t.FValue]⟩ : Sl TValue).nl) ((⟨false, [t.FValue]⟩ : Sl TValue).l) (⟨false, [t.FName]⟩ : Sl Bs)) = some x := by rw [Z27_eq]; exact e1
  have e2' : Z28 (TValue.mk (6 : Int) (0 : Int) ([] : Bs) ((⟨false, [t.FValue]⟩ : Sl TValue).nl) ((⟨false, [t.FValue]⟩ : Sl TValue).l) (⟨false, [t.FName]⟩ : Sl Bs)) = some y := by rw [Z28_eq]; exact e2
  rw [e1', e2']
  cases s5 with
  | false => simp only [gF, Bool.false_and]; rw [j51]; exact hk _ fun h => by cases h
  | true =>
   cases x with
   | false => simp only [gT, gF, Option.bind_some, Bool.and_false, Bool.false_and]; rw [j51]; exact hk _ fun h => by cases h
   | true =>
    simp only [gT, Option.bind_some, Bool.and_self, Bool.true_and]
    rw [j51]
    exact hk _ fun h => ⟨rfl, plain_of hm e1 (by rw [e2, h])⟩
theorem texts_eq (a b : Sl TArg) (hs : Sl.sz TArg.sz a + Sl.sz TArg.sz b ≤ 1048576) (hwa : Sl.wf TArg.wf a) (hwb : Sl.wf TArg.wf b) : Z16 a b = some true := by
 obtain ⟨m, hm⟩ := F0_succ
 have hca := args_count a.l
 have hcb := args_count b.l
 have hsa : Sl.sz TArg.sz a = 1 + (a.l.map TArg.sz).sum := rfl
 have hsb : Sl.sz TArg.sz b = 1 + (b.l.map TArg.sz).sum := rfl
 have hea : ∀ t ∈ a.l, t.sz ≤ 1048576 := fun t ht => by have := Sl.mem_le (f := TArg.sz) ht; omega
 have heb : ∀ t ∈ b.l, t.sz ≤ 1048576 := fun t ht => by have := Sl.mem_le (f := TArg.sz) ht; omega
 have main : ∀ (n i : Nat) (s5 : Bool), a.l.length + b.l.length < n + i → i ≤ a.l.length + b.l.length → (s5 = true → ∀ t ∈ (a.l ++ b.l).take i, PlA m t) → Z16_l42 a b n s5 (i : Int) = some true := by
  intro n
  induction n with
  | zero => intro i s5 h1 h2; omega
  | succ n ih =>
   intro i s5 h1 h2 hp
   rw [Z16_l42, addC_ok (by omega), Option.bind_some]
   by_cases hi : i < a.l.length + b.l.length
   ·rw [show decide (((i : Nat) : Int) < ((a.l.length : Nat) : Int) + ((b.l.length : Nat) : Int)) = true from decide_eq_true (by omega), cond_true]
    have next : ∀ t : TArg, (a.l ++ b.l)[i]? = some t → ∀ s, (s = true → s5 = true ∧ PlA m t) → Z16_l42 a b n s (((i : Nat) : Int) + 1) = some true := by
     intro t ht s hst
     refine ih (i + 1) s (by omega) (by omega) fun hs' u hu => ?_
     rw [List.take_add_one, ht] at hu
     rcases List.mem_append.1 hu with hu | hu
     ·exact hp (hst hs').1 u hu
     ·rw [show u = t by simpa using hu]; exact (hst hs').2
    by_cases hia : i < a.l.length
    ·rw [show decide (((i : Nat) : Int) < ((a.l.length : Nat) : Int)) = true from decide_eq_true (by omega), cond_true]
     have e1 : idxC a.l (i : Int) = some a.l[i] := by unfold idxC; rw [if_pos (by omega), Int.toNat_natCast, List.getElem?_eq_getElem hia]
     rw [e1, Option.bind_some]
     exact j55_true hm (hea _ (List.getElem_mem hia)) (by omega) (next _ (by rw [List.getElem?_append_left hia, List.getElem?_eq_getElem hia]))
    ·rw [show decide (((i : Nat) : Int) < ((a.l.length : Nat) : Int)) = false from decide_eq_false (by omega), cond_false, subC_ok (by omega), Option.bind_some]
     have hib : i - a.l.length < b.l.length := by omega
     have e1 : idxC b.l (((i : Nat) : Int) - ((a.l.length : Nat) : Int)) = some b.l[i - a.l.length] := by
      unfold idxC; rw [if_pos (by omega), show (((i : Nat) : Int) - ((a.l.length : Nat) : Int)).toNat = i - a.l.length by omega, List.getElem?_eq_getElem hib]
     rw [e1, Option.bind_some]
     exact j55_true hm (heb _ (List.getElem_mem hib)) (by omega) (next _ (by rw [List.getElem?_append_right (by omega), List.getElem?_eq_getElem hib]))
   ·rw [show decide (((i : Nat) : Int) < ((a.l.length : Nat) : Int) + ((b.l.length : Nat) : Int)) = false from decide_eq_false (by omega), cond_false]
    exact j9_true a b s5 m hm hs hwa hwb fun h t ht => hp h t (by rw [List.take_of_length_le (by rw [List.length_append]; omega)]; exact ht)
 unfold Z16
 cases ((decide ((20 : Int) < ((a.l.length : Nat) : Int))) || (decide ((20 : Int) < ((b.l.length : Nat) : Int)))) with
 | true => rw [cond_true, example12]; rfl
 | false => rw [cond_false]; exact main F0 0 true (by rw [F0_eq]; omega) (by omega) (fun _ t ht => by simp at ht)
end Go.Proofs

namespace Go.Proofs.YtjlggcgmmpopmaaDoor
open Go Go.Ab Go.RowKit Go.ChangeShapes Go.WideShapes Go.ChangeAt
variable {lou : Lou}
theorem bulkAll {H : Type} (l : List (DataW H)) : Rows.uptoBulkAll l = (l.map Rows.uptoBulk).sum := by
 induction l with
 | nil => rfl
 | cons x r ih => simp only [Rows.uptoBulkAll, List.map_cons, List.sum_cons, ih]
theorem bulkB {H : Type} : Bulk (H := H) Rows.uptoBulk := by
 refine ⟨fun d => ?_, fun b => by simp [Rows.uptoBulk], fun e s => by simp only [Rows.uptoBulk, bulkAll]; omega, fun l => by simp only [Rows.uptoBulk, bulkAll]; omega⟩
 cases d with
 | lit l => cases l <;> simp [Rows.uptoBulk]
 | nil => simp [Rows.uptoBulk]
 | ptr d => simp [Rows.uptoBulk]
 | slice elems spare => simp [Rows.uptoBulk]
 | agg parts => simp [Rows.uptoBulk]
 | iface t d => simp [Rows.uptoBulk]
 | map entries => simp [Rows.uptoBulk]
 | held h => simp [Rows.uptoBulk]
theorem own : ownKnob Tryd.prog.godebug = none := by kernel_rfl
theorem laid : laidOutB Tryd.prog = true := by kernel_rfl
theorem bound {H : Type} {l : List (DataW H)} (hk : Rows.uptoSmall H l = true) : Rows.uptoBulkAll l ≤ 1048576 := of_decide_eq_true hk
theorem table {W : World} (h : laidMet Tryd.prog Rows.coerceTextsUptoRow.laid W) : ∃ u fr, W.heap[1]? = some (.cells (Lib.pow10Tab.map fun z => Value.int .u64 z).toArray u fr) :=
 tab_of (P := Tryd.prog) (name := "internal/strconv.uint64pow10") (g := 1) (t := 151) (e := 144) (n := 20) (by kernel_rfl) (by kernel_rfl) (by kernel_rfl) (by kernel_rfl) (by kernel_rfl) (by kernel_rfl) h
  (by rw [show (Lib.tabData .u64 Lib.pow10Tab : DataW Unit) = Rows.laid_internal_strconv_uint64pow10 from (by kernel_rfl)]; exact .tail _ (.tail _ (.head _)))
theorem isTab (u : TypeId) (fr : Nat × Nat) : IsTab Tryd.prog (.fix 1 (.cells (Lib.pow10Tab.map fun z => Value.int .u64 z).toArray u fr)) := .of (by kernel_rfl)
theorem texts_call [IsLoud lou] (a b : Sl TArg) (hs : Sl.sz TArg.sz a + Sl.sz TArg.sz b ≤ 1048576) (hwa : Sl.wf TArg.wf a) (hwb : Sl.wf TArg.wf b) (u : TypeId) (fr : Nat × Nat) : ACalls Tryd.prog 3 [.d (Sl.d 6 TArg.c none a), .d (Sl.d 6 TArg.c none b)] (hTab 1 (.cells (Lib.pow10Tab.map fun z => Value.int .u64 z).toArray u fr)) fun r h' => r = .a (.d (.bool true)) ∧ h' = hTab 1 (.cells (Lib.pow10Tab.map fun z => Value.int .u64 z).toArray u fr) :=
 Z16_walk (texts_eq a b hs hwa hwb) _ (gT := 0) rfl (isTab u fr)
end Go.Proofs.YtjlggcgmmpopmaaDoor

