import Derived.Test.YtjlggcgmmpopmaaGreatDoorV10
import Derived.Test.YtjlggcgmmpopmaaGreatDoorRows
set_option maxRecDepth 100000
set_option maxHeartbeats 2000000
set_option linter.unusedVariables false
set_option linter.unusedSimpArgs false
namespace Go.Proofs
open Go Go.Ab
theorem push_rl {M : Nat} {x y r r' : TValue} {b b' : Bool} (h : Rl (M + 1) x y) (hr : Rl M r r') (h3 : x.FKind ≠ 3) (h4 : x.FKind ≠ 4) (hb : x.FItems.l.length + 1 ≤ bB) :
  Rl (M + 1) (TValue.mk x.FKind x.FInt x.FText b (x.FItems.l ++ [r]) x.FKeys) (TValue.mk y.FKind y.FInt y.FText b' (y.FItems.l ++ [r']) y.FKeys) := by
 obtain ⟨a1, a2, a3, a4, a5, a6, a7, a8, a9⟩ := h
 exact ⟨a1, a2, a3, a4, a5, a6, by show (x.FItems.l ++ [r]).length ≤ bB; simpa using hb, fun h => (h.elim h3 h4).elim, a9.append (.cons hr .nil)⟩
def AtOk (N M : Nat) (d : TDoc) (n m : Nat) (lvl : Int) : Prop := ∀ (va : TValue) (li : Bool) (c : Int) (t t' : TRef) (v w : TValue), Rl (N + 1) va va → 0 ≤ c ∧ c ≤ 4096 → SOk t.FWraps → RefEq t t' → Rl N v w →
 OutA M d va li (coerce_coercer_at_qn n ⟨d, va, li, c⟩ t v lvl) (r12_work_coerce_qn m ⟨d, va, li, c, 0⟩ t' w lvl)
theorem list_stop (a1 : TRef) (a3 : Int) (k : R12_work → TRef → TValue → Int → Option (TValue × R12_work)) (l : List TValue) (w : R12_work) (x : TValue) (h : w.Ferr ≠ 0) : r12_work_list_q12 a1 a3 k l w x = some (w, x) := by
 cases l with
 | nil => rfl
 | cons a t => rw [r12_work_list_q12]; simp [h]
theorem list_loop {N M n m : Nat} {d : TDoc} {lvl : Int} (hat : AtOk N M d n m (lvl + 1)) (hlv : 0 ≤ lvl ∧ lvl ≤ 1000) {va : TValue} {li : Bool} {t t' : TRef} (hva : Rl (N + 1) va va) (ht : SOk t.FWraps) (he : RefEq t t') :
  ∀ (l l' : List TValue) (c : Int) (x y : TValue), All2 (Rl N) l l' → 0 ≤ c ∧ c ≤ 4096 → Rl (M + 1) x y → x.FKind ≠ 3 → x.FKind ≠ 4 → x.FItems.l.length + l.length ≤ bB →
   (∃ e c' k' x' y', e ≠ 0 ∧ coerce_coercer_list_q14 t lvl (coerce_coercer_at_qn n) l ⟨d, va, li, c⟩ x = some (Sum.inr (x', e, c')) ∧ r12_work_list_q12 t' lvl (r12_work_coerce_qn m) l' ⟨d, va, li, c, 0⟩ y = some (k', y') ∧ k'.Ferr = e) ∨
   (∃ c' x' y', 0 ≤ c' ∧ c' ≤ 4096 ∧ coerce_coercer_list_q14 t lvl (coerce_coercer_at_qn n) l ⟨d, va, li, c⟩ x = some (Sum.inl (⟨d, va, li, c'⟩, x')) ∧ r12_work_list_q12 t' lvl (r12_work_coerce_qn m) l' ⟨d, va, li, c, 0⟩ y = some (⟨d, va, li, c', 0⟩, y') ∧ Rl (M + 1) x' y') := by
 intro l l' c x y hl
 induction hl generalizing c x y with
 | nil => intro hc hx _ _ _; exact .inr ⟨c, x, y, hc.1, hc.2, rfl, rfl, hx⟩
 | @cons a b tl tl' hab htl ih =>
  intro hc hx h3 h4 hb
  simp only [List.length_cons] at hb
  have hby : y.FItems.l.length = x.FItems.l.length := hx.2.2.2.2.2.2.2.2.length.symm
  rw [coerce_coercer_list_q14, r12_work_list_q12]
  simp only [Ab.on, addC_ok (show -9223372036854775808 ≤ lvl + 1 ∧ lvl + 1 ≤ 9223372036854775807 by omega), Option.bind_some, decide_true, cond_true]
  have hax : ∀ r : TValue, appC 80 x.FItems (⟨false, [r]⟩ : Sl TValue) = some ⟨x.FItems.nl && [r].isEmpty, x.FItems.l ++ [r]⟩ := fun r => appC80 (by unfold bB at hb; simp; omega)
  have hay : ∀ r : TValue, appC 80 y.FItems (⟨false, [r]⟩ : Sl TValue) = some ⟨y.FItems.nl && [r].isEmpty, y.FItems.l ++ [r]⟩ := fun r => appC80 (by unfold bB at hb; simp; omega)
  rcases hat va li c t t' a b hva hc ht he hab with ⟨e, r, c', r', k', hne, p1, p2, p3⟩ | ⟨c', r, r', g1, g2, p1, p2, p3⟩
  ·left
   rw [p1, p2, Option.bind_some, Option.bind_some, hay, Option.bind_some, list_stop _ _ _ _ _ _ (by rw [p3]; exact hne)]
   exact ⟨e, c', k', _, _, hne, by simp [hne]; rfl, rfl, p3⟩
  ·rw [p1, p2, Option.bind_some, Option.bind_some, hax, hay, Option.bind_some, Option.bind_some]
   simp only [decide_true, Bool.not_true, cond_false]
   exact ih c' _ _ ⟨g1, g2⟩ (push_rl hx p3 h3 h4 (by omega)) h3 h4 (by show (x.FItems.l ++ [r]).length + _ ≤ bB; simp; omega)
theorem list_rel {N M n m : Nat} {d : TDoc} {lvl : Int} (hat : AtOk N M d n m (lvl + 1)) (hlv : 0 ≤ lvl ∧ lvl ≤ 1000) : ListOk N (M + 1) d (n + 1) (m + 1) lvl := by
 intro va li c t t' v w hva hc ht he hv
 have h0 : Rl (M + 1) (TValue.mk (5 : Int) (0 : Int) ([] : Bs) true ([]) (Sl.nil : Sl Bs)) (TValue.mk (5 : Int) (0 : Int) ([] : Bs) true ([]) (Sl.nil : Sl Bs)) :=
  ⟨rfl, ⟨rfl, by show _ ≤ (0 : Int); decide, by show (0 : Int) ≤ _; decide⟩, rfl, rfl, fun _ => rfl, by show 0 ≤ _; omega, by show 0 ≤ _; omega, fun h => (by rcases h with h | h <;> cases h), .nil⟩
 have main : ∀ (s s' : Sl TValue), All2 (Rl N) s.l s'.l → s.l.length ≤ bB → OutA (M + 1) d va li
   ((coerce_coercer_list_q14 t lvl (coerce_coercer_at_qn n) s.l ⟨d, va, li, c⟩ (TValue.mk (5 : Int) (0 : Int) ([] : Bs) true ([]) (Sl.nil : Sl Bs))).bind fun o14 => match o14 with | Sum.inl z14 => (on ((z14.1, z14.2)) fun z7 => some (z7.2, (0 : Int), z7.1)) | Sum.inr e14 => (some e14))
   ((r12_work_list_q12 t' lvl (r12_work_coerce_qn m) s'.l ⟨d, va, li, c, 0⟩ (TValue.mk (5 : Int) (0 : Int) ([] : Bs) true ([]) (Sl.nil : Sl Bs))).bind fun z12 => on ((z12.1, z12.2)) fun z7 => some (z7.2, z7.1)) := by
  intro s s' hs hb
  rcases list_loop hat hlv (li := li) hva ht he s.l s'.l c _ _ hs hc h0 (by decide) (by decide) (by show 0 + _ ≤ _; omega) with ⟨e, c', k', x', y', hne, p1, p2, p3⟩ | ⟨c', x', y', g1, g2, p1, p2, p3⟩
  ·rw [p1, p2]; exact .inl ⟨e, x', c', y', k', hne, rfl, rfl, p3⟩
  ·rw [p1, p2]; exact .inr ⟨c', x', y', g1, g2, rfl, rfl, p3⟩
 rw [coerce_coercer_list_qn, r12_work_list_qn]
 have hk : v.FKind = w.FKind := by cases N with | zero => exact hv.elim | succ N => exact hv.1
 rw [← hk]
 by_cases k5 : v.FKind = 5
 ·simp only [k5, decide_true, Bool.not_true, cond_false, cond_true]
  cases N with
  | zero => exact hv.elim
  | succ N => exact main v.FItems w.FItems (hv.2.2.2.2.2.2.2.2.imp fun _ _ h => h.mono (by omega)) hv.2.2.2.2.2.2.1
 ·simp only [k5, decide_false, Bool.not_false, cond_false, cond_true]
  exact main ⟨false, [v]⟩ ⟨false, [w]⟩ (.cons hv .nil) (by show 1 ≤ bB; unfold bB; omega)
end Go.Proofs

namespace Go.Proofs
open Go Go.Ab
def PlainOk (N M : Nat) (d : TDoc) (n m : Nat) (lvl : Int) : Prop := ∀ (va : TValue) (li : Bool) (c : Int) (x : TInput), 0 ≤ c ∧ c ≤ 4096 → InOk N x → x.FHas = true →
 OutA M d va li (Z13_qn n ⟨d, va, li, c⟩ x lvl) (Z64_qn m ⟨d, va, li, c, 0⟩ x.FType x.FDefault lvl)
theorem plain_rel {N M n m : Nat} {d : TDoc} {lvl : Int} (hat : AtOk N M d n m lvl) : PlainOk N M d (n + 1) (m + 1) lvl := by
 intro va li c x hc hx hh
 rw [Z13_qn, Z64_qn]
 rcases hat zv true c x.FType x.FType x.FDefault x.FDefault (zv_rl.mono (by omega)) hc hx.1 ⟨rfl, rfl⟩ (hx.2 hh) with ⟨e, r, c', r', k', hne, p1, p2, p3⟩ | ⟨c', r, r', g1, g2, p1, p2, p3⟩
 ·unfold zv at p1 p2
  rw [p1, p2]
  exact .inl ⟨e, r, _, r', _, hne, rfl, rfl, p3⟩
 ·unfold zv at p1 p2
  rw [p1, p2]
  exact .inr ⟨c', r, r', g1, g2, rfl, rfl, p3⟩
theorem keys_err (t : TDef) (l : List Bs) (w : R12_work) (h : w.Ferr = 22) : r12_work_object_q58 t l w = w := by
 induction l generalizing w with
 | nil => rfl
 | cons a r ih =>
  rw [r12_work_object_q58]
  have : Z61_q w 22 = w := by unfold Z61_q; rw [h]; rfl
  simp only [Ab.on, this]
  cases (!(Z52_q t.FInputs a).2) <;> exact ih w h
theorem keys_rel (d : TDoc) (va : TValue) (li : Bool) (c : Int) (t : TDef) (l : List Bs) :
  (coerce_coercer_object_q66 ⟨d, va, li, c⟩ t l = Sum.inr (zv, 22, ⟨d, va, li, c⟩) ∧ r12_work_object_q58 t l ⟨d, va, li, c, 0⟩ = ⟨d, va, li, c, 22⟩) ∨
  (coerce_coercer_object_q66 ⟨d, va, li, c⟩ t l = Sum.inl () ∧ r12_work_object_q58 t l ⟨d, va, li, c, 0⟩ = ⟨d, va, li, c, 0⟩) := by
 induction l with
 | nil => exact .inr ⟨rfl, rfl⟩
 | cons a r ih =>
  rw [coerce_coercer_object_q66, r12_work_object_q58]
  simp only [Ab.on, fail_new, r10_inputOf_eq, inputOf_eq]
  cases h : (fndI t.FInputs.l a).2 with
  | true => simpa using ih
  | false =>
   left
   simp only [Bool.not_false, cond_true]
   exact ⟨rfl, keys_err t r _ rfl⟩
end Go.Proofs

namespace Go.Proofs
open Go Go.Ab
theorem earlier_loop (a0 : Sl TInput) (i : Nat) (x : TInput) (hi : a0.l[i]? = some x) (hb : a0.l.length ≤ 1048576) : ∀ (k f : Nat) (s : Nat), s + k = i → k < f →
  Z59_l5 a0 (i : Int) f (s : Int) = some (((a0.l.take i).drop s).any fun y => y.FName == x.FName) := by
 have hil : i < a0.l.length := (List.getElem?_eq_some_iff.1 hi).1
 intro k
 induction k with
 | zero =>
  intro f s hs hf
  obtain ⟨f, rfl⟩ : ∃ g, f = g + 1 := ⟨f - 1, by omega⟩
  rw [Z59_l5, show decide ((s : Int) < (i : Int)) = false from decide_eq_false (by omega), cond_false, List.drop_of_length_le (by simp; omega)]; rfl
 | succ k ih =>
  intro f s hs hf
  obtain ⟨f, rfl⟩ : ∃ g, f = g + 1 := ⟨f - 1, by omega⟩
  have hsl : s < a0.l.length := by omega
  rw [Z59_l5, show decide ((s : Int) < (i : Int)) = true from decide_eq_true (by omega), cond_true]
  have e1 : idxC a0.l (s : Int) = some a0.l[s] := by unfold idxC; rw [if_pos (by omega), show ((s : Int).toNat) = s by omega, List.getElem?_eq_getElem hsl]
  have e2 : idxC a0.l (i : Int) = some x := by unfold idxC; rw [if_pos (by omega), show ((i : Int).toNat) = i by omega, hi]
  rw [e1, e2, Option.bind_some, Option.bind_some]
  have hd : (a0.l.take i).drop s = a0.l[s] :: (a0.l.take i).drop (s + 1) := by
   rw [List.drop_eq_getElem_cons (by simp; omega)]; simp
  rw [hd, List.any_cons, addC_ok (by omega), Option.bind_some]
  cases a0.l[s].FName == x.FName with
  | true => rfl
  | false => rw [cond_false, Bool.false_or]; exact ih f (s + 1) (by omega) (by omega)
theorem earlier_eq (a0 : Sl TInput) (i : Nat) (x : TInput) (hi : a0.l[i]? = some x) (hb : a0.l.length ≤ 1048576) : Z59_q a0 (i : Int) = some (fndI (a0.l.take i) x.FName).2 := by
 have hil : i < a0.l.length := (List.getElem?_eq_some_iff.1 hi).1
 unfold Z59_q Z59
 have := earlier_loop a0 i x hi hb i F0 0 (by omega) (by rw [F0_eq]; omega)
 rw [show ((0 : Int)) = ((0 : Nat) : Int) from rfl, this, List.drop_zero]
 unfold fndI
 congr 1
 cases h : (a0.l.take i).find? (fun t => t.FName == x.FName) with
 | none => rw [List.find?_eq_none] at h; rw [List.any_eq_false]; exact h
 | some t => exact List.any_eq_true.2 ⟨t, List.mem_of_find?_eq_some h, by simpa using List.find?_some h⟩
end Go.Proofs

namespace Go.Proofs
open Go Go.Ab
theorem pushK_rl {M : Nat} {x y r r' : TValue} {b b' k k' : Bool} {nm : Bs} (h : Rl (M + 1) x y) (hr : Rl M r r') (h3 : x.FKind ≠ 3) (h4 : x.FKind ≠ 4) (hb : x.FItems.l.length + 1 ≤ bB) (hkb : x.FKeys.l.length + 1 ≤ bB) (hk : k = false) :
  Rl (M + 1) (TValue.mk x.FKind x.FInt x.FText b (x.FItems.l ++ [r]) ⟨k, x.FKeys.l ++ [nm]⟩) (TValue.mk y.FKind y.FInt y.FText b' (y.FItems.l ++ [r']) ⟨k', y.FKeys.l ++ [nm]⟩) := by
 obtain ⟨a1, a2, a3, a4, a5, a6, a7, a8, a9⟩ := h
 exact ⟨a1, a2, a3, by show x.FKeys.l ++ [nm] = y.FKeys.l ++ [nm]; rw [a4], fun e => (by have e : k = true := e; rw [hk] at e; cases e), by show (x.FKeys.l ++ [nm]).length ≤ bB; simpa using hkb, by show (x.FItems.l ++ [r]).length ≤ bB; simpa using hb,
  fun h => (h.elim h3 h4).elim, a9.append (.cons hr .nil)⟩
def OutO (M : Nat) (d : TDoc) (va : TValue) (li : Bool) (p : Option (((Coerce_coercer × TValue)) ⊕ ((TValue × Int × Coerce_coercer)))) (q : Option (R12_work × TValue)) : Prop :=
 (∃ e c' k' x' y', e ≠ 0 ∧ p = some (Sum.inr (x', e, c')) ∧ q = some (k', y') ∧ k'.Ferr = e) ∨
 (∃ c' x' y', 0 ≤ c' ∧ c' ≤ 4096 ∧ p = some (Sum.inl (⟨d, va, li, c'⟩, x')) ∧ q = some (⟨d, va, li, c', 0⟩, y') ∧ Rl M x' y')
def finC (x22 : TValue) (nm : Bs) (rec : Coerce_coercer → TValue → Option (((Coerce_coercer × TValue)) ⊕ ((TValue × Int × Coerce_coercer)))) (e : Int) (c : Coerce_coercer) (z : TValue) : Option (((Coerce_coercer × TValue)) ⊕ ((TValue × Int × Coerce_coercer))) :=
 bif (!decide (e = (0 : Int))) then (some (Sum.inr (zv, e, c))) else ((appC 16 x22.FKeys (⟨false, [nm]⟩ : Sl Bs)).bind fun x50 => (appC 80 x22.FItems (⟨false, [z]⟩ : Sl TValue)).bind fun x51 => rec c (TValue.mk x22.FKind x22.FInt x22.FText x51.nl x51.l x50))
def finR (y21 : TValue) (nm : Bs) (w : R12_work) (z : TValue) : Option (R12_work × TValue) :=
 (appC 16 y21.FKeys (⟨false, [nm]⟩ : Sl Bs)).bind fun x42 => (appC 80 y21.FItems (⟨false, [z]⟩ : Sl TValue)).bind fun x43 => some (w, (TValue.mk y21.FKind y21.FInt y21.FText x43.nl x43.l x42))
theorem fin_rel {M : Nat} {d : TDoc} {va : TValue} {li : Bool} {x y : TValue} {nm : Bs} {rc : Coerce_coercer → TValue → Option (((Coerce_coercer × TValue)) ⊕ ((TValue × Int × Coerce_coercer)))} {rr : R12_work → TValue → Option (R12_work × TValue)}
  (hx : Rl (M + 1) x y) (h3 : x.FKind ≠ 3) (h4 : x.FKind ≠ 4) (hb : x.FItems.l.length + 1 ≤ bB) (hkb : x.FKeys.l.length + 1 ≤ bB)
  (hstop : ∀ w z, w.Ferr ≠ 0 → rr w z = some (w, z))
  (hrec : ∀ (c : Int) (x' y' : TValue), 0 ≤ c ∧ c ≤ 4096 → Rl (M + 1) x' y' → x'.FKind = x.FKind → x'.FItems.l.length = x.FItems.l.length + 1 → x'.FKeys.l.length = x.FKeys.l.length + 1 → OutO (M + 1) d va li (rc ⟨d, va, li, c⟩ x') (rr ⟨d, va, li, c, 0⟩ y'))
  {p : Option (TValue × Int × Coerce_coercer)} {q : Option (TValue × R12_work)} (h : OutA M d va li p q) :
  OutO (M + 1) d va li (p.bind fun r => finC x nm rc r.2.1 r.2.2 r.1) ((q.bind fun r => finR y nm r.2 r.1).bind fun z => rr z.1 z.2) := by
 have hby : y.FItems.l.length = x.FItems.l.length := hx.2.2.2.2.2.2.2.2.length.symm
 have hky : y.FKeys.l = x.FKeys.l := hx.2.2.2.1.symm
 have hax : ∀ r : TValue, appC 80 x.FItems (⟨false, [r]⟩ : Sl TValue) = some ⟨x.FItems.nl && [r].isEmpty, x.FItems.l ++ [r]⟩ := fun r => appC80 (by unfold bB at hb; simp; omega)
 have hay : ∀ r : TValue, appC 80 y.FItems (⟨false, [r]⟩ : Sl TValue) = some ⟨y.FItems.nl && [r].isEmpty, y.FItems.l ++ [r]⟩ := fun r => appC80 (by unfold bB at hb; simp; omega)
 have hkx : appC 16 x.FKeys (⟨false, [nm]⟩ : Sl Bs) = some ⟨x.FKeys.nl && [nm].isEmpty, x.FKeys.l ++ [nm]⟩ := appC_ok32 (by omega) (by unfold bB at hkb; simp; omega)
 have hkyy : appC 16 y.FKeys (⟨false, [nm]⟩ : Sl Bs) = some ⟨y.FKeys.nl && [nm].isEmpty, y.FKeys.l ++ [nm]⟩ := appC_ok32 (by omega) (by rw [hky]; unfold bB at hkb; simp; omega)
 rcases h with ⟨e, r, c', r', k', hne, p1, p2, p3⟩ | ⟨c', r, r', g1, g2, p1, p2, p3⟩
 ·left
  rw [p1, p2]
  unfold finC finR
  simp only [Option.bind_some, hkyy, hay]
  rw [hstop _ _ (by rw [p3]; exact hne)]
  exact ⟨e, c', k', zv, _, hne, by simp [hne], rfl, p3⟩
 ·rw [p1, p2]
  unfold finC finR
  simp only [Option.bind_some, hkyy, hay, hkx, hax, decide_true, Bool.not_true, cond_false]
  exact hrec c' _ _ ⟨g1, g2⟩ (pushK_rl hx p3 h3 h4 hb hkb (by simp)) rfl (by show (x.FItems.l ++ [r]).length = _; simp) (by show (x.FKeys.l ++ [nm]).length = _; simp)
theorem obj_stop (a1 : TDef) (a2 : TValue) (a3 : Int) (k k2 : R12_work → TRef → TValue → Int → Option (TValue × R12_work)) (l : List TInput) (i : Nat) (w : R12_work) (x : TValue) (h : w.Ferr ≠ 0) : r12_work_object_q18 a1 a2 a3 k k2 l i w x = some (w, x) := by
 cases l with
 | nil => rfl
 | cons a t => rw [r12_work_object_q18]; simp [h]
end Go.Proofs

namespace Go.Proofs
open Go Go.Ab
theorem objC_unfold (a1 : TDef) (a2 : TValue) (a3 : Int) (ka : Coerce_coercer → TRef → TValue → Int → Option (TValue × Int × Coerce_coercer)) (kpl : Coerce_coercer → TInput → Int → Option (TValue × Int × Coerce_coercer)) (h : TInput) (r : List TInput) (i : Nat) (c : Coerce_coercer) (x : TValue) :
  coerce_coercer_object_q18 a1 a2 a3 ka kpl (h :: r) i c x = bif (Z69_q (⟨a1.FInputs.nl, a1.FInputs.l.take i⟩ : Sl TInput) h.FName).2 then (coerce_coercer_object_q18 a1 a2 a3 ka kpl r (i + 1) c x) else
   ((Z89_q a2 h.FName).bind fun x39 => guardO (x39.2) (Z12_q c x39.1) false fun x53 =>
    bif (x39.2 && (!x53)) then ((addC a3 (1 : Int)).bind fun x55 => (ka c h.FType x39.1 x55).bind fun x56 => finC x h.FName (coerce_coercer_object_q18 a1 a2 a3 ka kpl r (i + 1)) x56.2.1 x56.2.2 x56.1)
    else (bif h.FHas then ((addC a3 (1 : Int)).bind fun x59 => (kpl c h x59).bind fun x60 => finC x h.FName (coerce_coercer_object_q18 a1 a2 a3 ka kpl r (i + 1)) x60.2.1 x60.2.2 x60.1)
    else (bif Z87_q h.FType then (finC x h.FName (coerce_coercer_object_q18 a1 a2 a3 ka kpl r (i + 1)) (22 : Int) c TValue.zero) else (coerce_coercer_object_q18 a1 a2 a3 ka kpl r (i + 1) c x)))) := by
 rw [coerce_coercer_object_q18]; rfl
theorem objR_unfold (a1 : TDef) (a2 : TValue) (a3 : Int) (kpl ka : R12_work → TRef → TValue → Int → Option (TValue × R12_work)) (h : TInput) (r : List TInput) (i : Nat) (w : R12_work) (x : TValue) (hw : w.Ferr = 0) :
  r12_work_object_q18 a1 a2 a3 kpl ka (h :: r) i w x = ((Z59_q a1.FInputs ((i : Nat) : Int)).bind fun x33 => Option.bind (bif x33 then (some (w, x)) else
   ((Z26_q a2 h.FName).bind fun x36 => guardO (x36.2) (Z62_q w x36.1) false fun x45 =>
    bif (x36.2 && (!x45)) then ((addC a3 (1 : Int)).bind fun x47 => (ka w h.FType x36.1 x47).bind fun x48 => finR x h.FName x48.2 x48.1)
    else (bif h.FHas then ((addC a3 (1 : Int)).bind fun x51 => (kpl w h.FType h.FDefault x51).bind fun x52 => finR x h.FName x52.2 x52.1)
    else (bif Z36_q h.FType then (finR x h.FName (Z61_q w (22 : Int)) TValue.zero) else (some (w, x)))))) fun z26 => r12_work_object_q18 a1 a2 a3 kpl ka r (i + 1) z26.1 z26.2) := by
 rw [r12_work_object_q18]
 simp only [hw, decide_true, cond_true]
 rfl
theorem obj_loop {N M n m : Nat} {d : TDoc} {lvl : Int} (hN : N + 1 ≤ 1099511627776) (hat : AtOk (N + 1) M d n m (lvl + 1)) (hpl : PlainOk (N + 1) M d n m (lvl + 1)) (hlv : 0 ≤ lvl ∧ lvl ≤ 1000) {va : TValue} {li : Bool} {t : TDef} {v w : TValue}
  (hva : Rl (N + 2) va va) (ht : DefOk (N + 1) t) (hv : Rl (N + 1) v w) :
  ∀ (l : List TInput) (i : Nat) (c : Int) (x y : TValue), t.FInputs.l.drop i = l → 0 ≤ c ∧ c ≤ 4096 → Rl (M + 1) x y → x.FKind = 6 → x.FItems.l.length + l.length ≤ 1048576 → x.FKeys.l.length + l.length ≤ 1048576 →
   OutO (M + 1) d va li (coerce_coercer_object_q18 t v lvl (coerce_coercer_at_qn n) (Z13_qn n) l i ⟨d, va, li, c⟩ x) (r12_work_object_q18 t w lvl (Z64_qn m) (r12_work_coerce_qn m) l i ⟨d, va, li, c, 0⟩ y) := by
 intro l
 induction l with
 | nil => intro i c x y _ hc hx _ _ _; exact .inr ⟨c, x, y, hc.1, hc.2, rfl, rfl, hx⟩
 | cons h r ih =>
  intro i c x y hd hc hx h6 hb hkb
  simp only [List.length_cons] at hb hkb
  have hil : i < t.FInputs.l.length := by
   rcases Nat.lt_or_ge i t.FInputs.l.length with c | c
   ·exact c
   ·rw [List.drop_of_length_le c] at hd; cases hd
  have hcons := List.drop_eq_getElem_cons hil
  rw [hd] at hcons
  simp only [List.cons.injEq] at hcons
  obtain ⟨hh, hr⟩ := hcons
  have hget : t.FInputs.l[i]? = some h := by rw [List.getElem?_eq_getElem hil, hh]
  have hin : InOk (N + 1) h := ht.2 h (List.mem_of_getElem? hget)
  have h3 : x.FKind ≠ 3 := by rw [h6]; decide
  have h4 : x.FKind ≠ 4 := by rw [h6]; decide
  rw [objC_unfold, objR_unfold _ _ _ _ _ _ _ _ _ _ rfl, earlier_eq t.FInputs i h hget ht.1, inputOf_eq, Option.bind_some]
  have skip := ih (i + 1) c x y hr.symm hc hx h6 (by omega) (by omega)
  have hrec : ∀ (c : Int) (x' y' : TValue), 0 ≤ c ∧ c ≤ 4096 → Rl (M + 1) x' y' → x'.FKind = x.FKind → x'.FItems.l.length = x.FItems.l.length + 1 → x'.FKeys.l.length = x.FKeys.l.length + 1 →
    OutO (M + 1) d va li (coerce_coercer_object_q18 t v lvl (coerce_coercer_at_qn n) (Z13_qn n) r (i + 1) ⟨d, va, li, c⟩ x') (r12_work_object_q18 t w lvl (Z64_qn m) (r12_work_coerce_qn m) r (i + 1) ⟨d, va, li, c, 0⟩ y') :=
   fun c x' y' h1 h2 h3 h4 h5 => ih (i + 1) c x' y' hr.symm h1 h2 (h3.trans h6) (by omega) (by omega)
  have fin : ∀ {p q}, OutA M d va li p q → _ := fun {p q} h1 => fin_rel (nm := h.FName) (rr := fun k z => r12_work_object_q18 t w lvl (Z64_qn m) (r12_work_coerce_qn m) r (i + 1) k z) (p := p) (q := q) hx h3 h4 (by unfold bB; omega) (by unfold bB; omega) (fun w z hw => obj_stop _ _ _ _ _ _ _ _ _ hw) hrec h1
  have hadd : addC lvl (1 : Int) = some (lvl + 1) := addC_ok (by omega)
  cases (fndI (t.FInputs.l.take i) h.FName).2 with
  | true => simp only [cond_true, Option.bind_some]; exact skip
  | false =>
   simp only [cond_false]
   obtain ⟨gx, gy, b, e1, e2, hbb⟩ := get_rl hv (by omega) h.FName
   rw [e1, e2, Option.bind_some, Option.bind_some]
   have rest : OutO (M + 1) d va li
     (bif h.FHas then ((addC lvl (1 : Int)).bind fun x59 => (Z13_qn n ⟨d, va, li, c⟩ h x59).bind fun x60 => finC x h.FName (coerce_coercer_object_q18 t v lvl (coerce_coercer_at_qn n) (Z13_qn n) r (i + 1)) x60.2.1 x60.2.2 x60.1)
      else (bif Z87_q h.FType then (finC x h.FName (coerce_coercer_object_q18 t v lvl (coerce_coercer_at_qn n) (Z13_qn n) r (i + 1)) (22 : Int) ⟨d, va, li, c⟩ TValue.zero) else (coerce_coercer_object_q18 t v lvl (coerce_coercer_at_qn n) (Z13_qn n) r (i + 1) ⟨d, va, li, c⟩ x)))
     (Option.bind (bif h.FHas then ((addC lvl (1 : Int)).bind fun x51 => (Z64_qn m ⟨d, va, li, c, 0⟩ h.FType h.FDefault x51).bind fun x52 => finR y h.FName x52.2 x52.1)
      else (bif Z36_q h.FType then (finR y h.FName (Z61_q ⟨d, va, li, c, 0⟩ (22 : Int)) TValue.zero) else (some (⟨d, va, li, c, 0⟩, y)))) fun z26 => r12_work_object_q18 t w lvl (Z64_qn m) (r12_work_coerce_qn m) r (i + 1) z26.1 z26.2) := by
    cases hh : h.FHas with
    | true =>
     simp only [cond_true, hadd, Option.bind_some]
     exact fin (hpl va li c h hc hin hh)
    | false =>
     simp only [cond_false]
     rw [isNonNull_eq, r05_isNonNull_eq]
     cases nnW h.FType.FWraps.l with
     | true =>
      simp only [cond_true, fail_new]
      exact fin (p := some (TValue.zero, 22, ⟨d, va, li, c⟩)) (q := some (TValue.zero, ⟨d, va, li, c, 22⟩)) (.inl ⟨22, _, _, _, _, by decide, rfl, rfl, rfl⟩)
     | false => simp only [cond_false, Option.bind_some]; exact skip
   rcases hbb with ⟨rfl, hg⟩ | ⟨rfl, hg1, hg2⟩
   ·obtain ⟨bm, m1, m2⟩ := missing_eq (n := N + 1) hva hN d li c hg
    simp only [guardO, if_true, m1, m2, Option.bind_some]
    cases bm with
    | true => simp only [Bool.not_true, Bool.and_false, cond_false]; exact rest
    | false =>
     simp only [Bool.not_false, Bool.and_true, cond_true, hadd, Option.bind_some]
     exact fin (hat va li c h.FType h.FType gx gy hva hc hin.1 ⟨rfl, rfl⟩ (hg.mono (by omega)))
   ·simp only [guardO, Bool.false_eq_true, if_false, Bool.false_and, cond_false]
    exact rest
end Go.Proofs

namespace Go.Proofs
open Go Go.Ab
theorem obj_rel {N M n m : Nat} {d : TDoc} {lvl : Int} (hN : N ≤ 1099511627776) (hat : AtOk N M d n m (lvl + 1)) (hpl : PlainOk N M d n m (lvl + 1)) (hlv : 0 ≤ lvl ∧ lvl ≤ 1000) : ObjOk N (M + 1) d (n + 1) (m + 1) lvl := by
 intro va li c t v w hva hc ht hv
 obtain ⟨N, rfl⟩ : ∃ N', N = N' + 1 := by cases N with | zero => exact hv.elim | succ N => exact ⟨N, rfl⟩
 have h0 : Rl (M + 1) (TValue.mk (6 : Int) (0 : Int) ([] : Bs) true ([]) (Sl.nil : Sl Bs)) (TValue.mk (6 : Int) (0 : Int) ([] : Bs) true ([]) (Sl.nil : Sl Bs)) :=
  ⟨rfl, ⟨rfl, by show _ ≤ (0 : Int); decide, by show (0 : Int) ≤ _; decide⟩, rfl, rfl, fun _ => rfl, by show 0 ≤ _; omega, by show 0 ≤ _; omega, fun h => (by rcases h with h | h <;> cases h), .nil⟩
 rw [coerce_coercer_object_qn, r12_work_object_qn, ← hv.1, ← hv.2.2.2.1]
 by_cases k6 : v.FKind = 6
 ·simp only [k6, decide_true, Bool.not_true, cond_false, Ab.on]
  rcases keys_rel d va li c t v.FKeys.l with ⟨e1, e2⟩ | ⟨e1, e2⟩
  ·rw [e1, e2]
   rw [obj_stop _ _ _ _ _ _ _ _ _ (by show (22 : Int) ≠ 0; decide)]
   exact .inl ⟨22, zv, _, _, _, by decide, rfl, rfl, rfl⟩
  ·rw [e1, e2]
   simp only
   rcases obj_loop hN hat hpl hlv (li := li) hva ht hv t.FInputs.l 0 c _ _ (by simp) hc h0 rfl (by show 0 + _ ≤ _; have := ht.1; omega) (by show 0 + _ ≤ _; have := ht.1; omega) with ⟨e, c', k', x', y', hne, p1, p2, p3⟩ | ⟨c', x', y', g1, g2, p1, p2, p3⟩
   ·rw [p1, p2]; exact .inl ⟨e, x', c', y', k', hne, rfl, rfl, p3⟩
   ·rw [p1, p2]; exact .inr ⟨c', x', y', g1, g2, rfl, rfl, p3⟩
 ·simp only [k6, decide_false, Bool.not_false, cond_true, Ab.on, fail_new]
  exact .inl ⟨23, _, _, _, _, by decide, rfl, rfl, rfl⟩
theorem at_step {N M n m : Nat} {d : TDoc} {lvl : Int} (hN : N + 1 ≤ 1099511627776) (hM : N ≤ M) (hM1 : 1 ≤ M) (hD : ∀ s, DefOk N (fnd d.FDefs.l s).1) (hlv : 0 ≤ lvl ∧ lvl ≤ 1000) (hl : lvl ≤ 24 → ListOk N M d n m lvl) (ho : lvl ≤ 24 → ObjOk N M d n m lvl) : AtOk N M d (n + 1) (m + 1) lvl := by
 intro va li c t t' v w hva hc ht he hv
 rw [at_unfold, co_unfold, r10_isInput_eq, ← he.1]
 cases hi : Z70_q d t.FName with
 | false => exact .inl ⟨10, zv, _, zv, _, by decide, rfl, rfl, rfl⟩
 | true =>
  have hk : v.FKind = w.FKind := by cases N with | zero => exact hv.elim | succ N => exact hv.1
  have htx : v.FText = w.FText := by cases N with | zero => exact hv.elim | succ N => exact hv.2.2.1
  have hb : (li && decide (w.FKind = 7)) = (decide (v.FKind = 7) && li) := by rw [hk, Bool.and_comm]
  simp only [Bool.not_true, cond_false, hb]
  cases hc7 : (decide (v.FKind = 7) && li) with
  | false => exact tail_rel hM hM1 hD hl ho hva hc ht he hk (fun _ => hv) hi
  | true =>
   simp only [cond_true]
   obtain ⟨gx, gy, b, e1, e2, hg⟩ := get_rl hva (by omega) v.FText
   rw [← htx, e1, e2, Option.bind_some, Option.bind_some]
   have hgk : gx.FKind = gy.FKind := by
    rcases hg with ⟨_, h⟩ | ⟨_, h1, h2⟩
    ·cases N with | zero => exact h.elim | succ N => exact h.1
    ·rw [h1, h2]
   simp only [← hgk]
   by_cases k0 : gx.FKind = 0
   ·simp only [k0, decide_true, Bool.not_true, cond_false]
    exact tail_rel hM hM1 hD hl ho hva hc ht he k0 (fun h => (h k0).elim) hi
   ·simp only [k0, decide_false, Bool.not_false, cond_true]
    have hr : Rl N gx gy := by
     rcases hg with ⟨_, h⟩ | ⟨_, h1, h2⟩
     ·exact h
     ·rw [h1] at k0; exact (k0 rfl).elim
    unfold Z15_q Z67_q
    rcases use_rel N hr F0 d va li c lvl (by rw [F0_eq]; omega) hc (by omega) with ⟨e, c', x, k', hne, p1, p2, p3⟩ | ⟨c', x, g1, g2, p1, p2, p3⟩
    ·rw [p1, p2]
     exact .inl ⟨e, zv, c', x, k', hne, by simp [hne], rfl, p3⟩
    ·rw [p1, p2]
     exact .inr ⟨c', gx, x, g1, g2, rfl, rfl, p3.mono hM⟩
theorem at_rel {N : Nat} {d : TDoc} (hN : N + 1 ≤ 1099511627776) (hD : ∀ s, DefOk N (fnd d.FDefs.l s).1) : ∀ (k : Nat) (lvl : Int), 1 ≤ lvl ∧ lvl ≤ 900 → 25 ≤ lvl + k → ∀ n m, 3 * k + 1 ≤ n → 3 * k + 1 ≤ m → AtOk N (N + k + 1) d n m lvl := by
 intro k
 induction k with
 | zero =>
  intro lvl hl hk n m hn hm va li c t t' v w hva hc ht he hv
  obtain ⟨n, rfl⟩ : ∃ x, n = x + 1 := ⟨n - 1, by omega⟩
  obtain ⟨m, rfl⟩ : ∃ x, m = x + 1 := ⟨m - 1, by omega⟩
  exact at_step hN (by omega) (by omega) hD (by omega) (fun h => by omega) (fun h => by omega) va li c t t' v w hva hc ht he hv
 | succ k ih =>
  intro lvl hl hk n m hn hm
  obtain ⟨n, rfl⟩ : ∃ x, n = x + 3 := ⟨n - 3, by omega⟩
  obtain ⟨m, rfl⟩ : ∃ x, m = x + 3 := ⟨m - 3, by omega⟩
  by_cases h24 : lvl ≤ 24
  ·have a1 : AtOk N (N + k + 1) d n m (lvl + 1) := ih (lvl + 1) (by omega) (by omega) n m (by omega) (by omega)
   have a2 : AtOk N (N + k + 1) d (n + 1) (m + 1) (lvl + 1) := ih (lvl + 1) (by omega) (by omega) _ _ (by omega) (by omega)
   exact at_step hN (by omega) (by omega) hD (by omega) (fun _ => list_rel a2 (by omega)) (fun _ => obj_rel (by omega) a2 (plain_rel a1) (by omega))
  ·exact at_step hN (by omega) (by omega) hD (by omega) (fun h => (h24 h).elim) (fun h => (h24 h).elim)
end Go.Proofs

namespace Go.Proofs
open Go Go.Ab
def OutF (M : Nat) (p q : Option (TValue × Int)) : Prop := ∃ x y e, p = some (x, e) ∧ q = some (y, e) ∧ Rl M x y
theorem done_rel {N M : Nat} (hM1 : 1 ≤ M) (hM : M ≤ 1099511627776) {d : TDoc} {va : TValue} {li : Bool} {p : Option (TValue × Int × Coerce_coercer)} {q : Option (TValue × R12_work)} (h : OutA M d va li p q) :
  OutF M (p.bind fun x => Z16_q x.1 x.2.1) (q.bind fun x => bif (!decide (x.2.Ferr = (0 : Int))) then some (zv, x.2.Ferr) else some (x.1, 0)) := by
 rcases h with ⟨e, r, c', r', k', hne, p1, p2, p3⟩ | ⟨c', r, r', g1, g2, p1, p2, p3⟩
 ·rw [p1, p2]
  refine ⟨zv, zv, e, ?_, ?_, zv_rl.mono hM1⟩
  ·unfold Z16_q; simp [hne]; rfl
  ·simp [p3, hne]
 ·rw [p1, p2]
  obtain ⟨x, e1, r1⟩ := copy_rl M p3 F0 (by rw [F0_eq]; omega)
  refine ⟨x, r', 0, ?_, by simp, r1⟩
  unfold Z16_q value_Copy_q
  simp [e1]
theorem run_rel {N : Nat} {d : TDoc} (hN : N + 1 ≤ 1099511627000) (hD : ∀ s, DefOk N (fnd d.FDefs.l s).1) {va : TValue} {li : Bool} {t : TRef} {v w : TValue} (hva : Rl (N + 1) va va) (ht : SOk t.FWraps) (hv : Rl N v w) :
  OutF (N + 25) ((coerce_coercer_at_q ⟨d, va, li, 0⟩ t v 1).bind fun x15 => (Z16_q x15.1 x15.2.1).bind fun x16 => some (x16.1, x16.2)) ((Z65_q ⟨d, va, li, 0, 0⟩ t w).bind fun x => some (x.1, x.2.1)) := by
 have h := at_rel (by omega) hD 24 1 (by omega) (by omega) F0 F0 (by rw [F0_eq]; omega) (by rw [F0_eq]; omega) va li 0 t t v w hva (by omega) ht ⟨rfl, rfl⟩ hv
 have h2 := done_rel (N := N) (by omega) (by omega) h
 unfold Z65_q coerce_coercer_at_q r12_work_coerce_q
 obtain ⟨x, y, e, e1, e2, e3⟩ := h2
 refine ⟨x, y, e, ?_, ?_, e3⟩
 ·rw [← e1]
  cases coerce_coercer_at_qn F0 ⟨d, va, li, 0⟩ t v 1 with
  | none => rfl
  | some a => simp only [Option.bind_some]; cases Z16_q a.1 a.2.1 <;> rfl
 ·rw [← e2]
  cases r12_work_coerce_qn F0 ⟨d, va, li, 0, 0⟩ t w 1 with
  | none => rfl
  | some a => simp only [Option.bind_some]; cases (!decide (a.2.Ferr = (0 : Int))) <;> rfl
theorem literal_rel {N : Nat} {d : TDoc} (hN : N + 1 ≤ 1099511627000) (hD : ∀ s, DefOk N (fnd d.FDefs.l s).1) {va : TValue} {t : TRef} {v w : TValue} (hva : Rl (N + 1) va va) (ht : SOk t.FWraps) (hv : Rl N v w) :
  OutF (N + 25) (Z4_q d t v va) (Z57_q d t w va) := by
 unfold Z4_q Z57_q
 obtain ⟨b, m1, m2⟩ := missing_eq hva (by omega) d true 0 hv
 have hrun := run_rel hN hD (li := true) hva ht hv
 simp only [Ab.on, m1, Option.bind_some, r10_isInput_eq]
 cases hi : Z70_q d t.FName with
 | false =>
  simp only [guardO, Bool.false_eq_true, if_false, Bool.false_and, cond_false, Bool.not_false, cond_true]
  cases b with
  | false => simp only [cond_false]; exact hrun
  | true =>
   simp only [cond_true]
   refine ⟨zv, zv, 10, rfl, ?_, zv_rl.mono (by omega)⟩
   unfold Z65_q r12_work_coerce_q
   rw [show F0 = 4611686018427387903 + 1 from rfl, co_unfold, r10_isInput_eq, hi]; rfl
 | true =>
  simp only [guardO, if_true, m2, Option.bind_some, Bool.true_and, Bool.not_true, cond_false]
  cases b with
  | false => simp only [cond_false]; exact hrun
  | true => simp only [cond_true]; exact ⟨zv, zv, 8, rfl, rfl, zv_rl.mono (by omega)⟩
end Go.Proofs

namespace Go.Proofs
open Go Go.Ab
theorem node_facts {v : TValue} {b : Bool} (h : Z30_q v b = some true) (hk : v.FKind = 3 ∨ v.FKind = 4) : v.FInt = 0 ∧ v.FItems.l = [] ∧ v.FKeys.l = [] := by
 unfold Z30_q at h
 rcases hk with hk | hk
 ·simp [hk, Ab.on] at h
  exact ⟨h.1.1, h.1.2, h.2⟩
 ·simp only [hk, show decide ((4 : Int) = 0) = false from rfl, show decide ((4 : Int) = 1) = false from rfl, show decide ((4 : Int) = 2) = false from rfl, show decide ((4 : Int) = 3) = false from rfl, decide_true, cond_false, cond_true, Ab.on] at h
  cases c : (((decide (v.FInt = (0 : Int))) && (decide (((v.FItems.l.length : Nat) : Int) = (0 : Int)))) && (decide (((v.FKeys.l.length : Nat) : Int) = (0 : Int)))) with
  | true => simp at c; exact ⟨c.1.1, c.1.2, c.2⟩
  | false => rw [c] at h; simp at h
theorem whole_rl (n : Nat) : ∀ (v : TValue) (b : Bool), Z32_qn n v b = some true → v.wf → v.sz ≤ 1048576 → Rl n v v := by
 induction n with
 | zero => intro v b h; cases h
 | succ n ih =>
  intro v b h hw hs
  rw [Z32_qn] at h
  cases e : Z30_q v b with
  | none => rw [e] at h; cases h
  | some x =>
   cases x with
   | false => rw [e] at h; cases h
   | true =>
    rw [e] at h
    simp only [Option.bind_some, Bool.not_true, cond_false, Ab.on] at h
    have hwf := (TValue.wf_iff v).1 hw
    have hsz := v.sz_def
    have hl : ∀ l : List TValue, Z32_q11 b (Z32_qn n) l = some (Sum.inl ()) → ∀ x ∈ l, Z32_qn n x b = some true := by
     intro l
     induction l with
     | nil => intro _ x hx; cases hx
     | cons a r ihl =>
      intro h
      rw [Z32_q11] at h
      simp only [Ab.on] at h
      cases e : Z32_qn n a b with
      | none => simp [e] at h
      | some y =>
       cases y with
       | false => simp [e] at h
       | true =>
        simp only [e, Option.bind_some, Bool.not_true, cond_false] at h
        intro x hx
        rcases List.mem_cons.1 hx with rfl | hx
        ·exact e
        ·exact ihl h x hx
    have hitems : ∀ x ∈ v.FItems.l, Z32_qn n x b = some true := by
     cases e2 : Z32_q24 b v.FKeys.l with
     | inr y => rw [e2] at h; simp only [Option.some.injEq] at h; subst h; exact absurd e2 (by
       intro e2
       have : ∀ l : List Bs, Z32_q24 b l ≠ Sum.inr true := by
        intro l
        induction l with
        | nil => intro h; cases h
        | cons a r ihl =>
         rw [Z32_q24]; simp only [Ab.on]
         cases (b && !(bif b then Z21_q (bif b then a else []) else false)) with
         | true => intro h; cases h
         | false => exact ihl
       exact this _ e2)
     | inl _ =>
      rw [e2] at h
      simp only at h
      cases e3 : Z32_q11 b (Z32_qn n) v.FItems.l with
      | none => rw [e3] at h; cases h
      | some z =>
       cases z with
       | inl _ => exact hl _ e3
       | inr y =>
        rw [e3] at h
        simp only [Option.bind_some, Option.some.injEq] at h
        subst h
        have : ∀ l : List TValue, Z32_q11 b (Z32_qn n) l ≠ some (Sum.inr true) := by
         intro l
         induction l with
         | nil => intro h; cases h
         | cons a r ihl =>
          rw [Z32_q11]; simp only [Ab.on]
          cases Z32_qn n a b with
          | none => intro h; cases h
          | some y =>
           cases y with
           | false => intro h; cases h
           | true => exact ihl
        exact (this _ e3).elim
    have hiL := Sl.len_le (f := TValue.sz) v.FItems (fun x => by have := x.sz_def; omega)
    have hkL := Sl.len_le (f := Bs.sz) v.FKeys (fun x => Bs.sz_pos x)
    have self : ∀ l : List TValue, (∀ x ∈ l, Rl n x x) → All2 (Rl n) l l := by
     intro l
     induction l with
     | nil => intro _; exact .nil
     | cons a r ihl => intro h; exact .cons (h a (by simp)) (ihl fun x hx => h x (by simp [hx]))
    refine ⟨rfl, ⟨rfl, hwf.2.1⟩, rfl, rfl, hwf.2.2.2.2.1.1, by unfold bB; omega, by unfold bB; omega, node_facts e, self _ fun x hx => ih x b (hitems x hx) ?_ ?_⟩
    ·exact hwf.2.2.2.1.2.2 x hx
    ·have := Sl.mem_le (f := TValue.sz) hx; omega
end Go.Proofs

namespace Go.Proofs
open Go Go.Ab
theorem Z38_loop (a : TRef) (ha : a.FWraps.l.length ≤ 1048576) (l : List Int) (i : Nat) (h : i + l.length = a.FWraps.l.length) : Ok (Z38_q10 a l i) := by
 induction l generalizing i with
 | nil => exact Tot.some _
 | cons x r ih =>
  simp only [List.length_cons] at h
  have hr := ih (i + 1) (by omega)
  rw [Z38_q10]
  simp only [on]
  refine Tot.cond (fun _ => Tot.some _) fun _ => ?_
  by_cases hi : 0 < i
  ·have h1 : decide ((0 : Int) < ((i : Nat) : Int)) = true := by simpa using hi
   obtain ⟨v, hv⟩ := idxC_ok (l := a.FWraps.l) (n := (i : Int) - 1) (by omega)
   simp only [h1, cond_true, Bool.true_and, subC_ok (a := (i : Int)) (b := 1) (by omega)]
   cases decide (x = 1) <;> simp only [guardO, hv, if_true, Option.bind_some, Bool.false_eq_true, if_false, Bool.false_and, cond_false]
   ·exact hr
   ·(repeat' (first | exact Tot.some _ | assumption | (with_reducible refine Tot.bind ?_ fun _ _ => ?_) | (with_reducible refine Tot.guard (fun _ => ?_) fun _ _ _ => ?_) | (with_reducible refine Tot.cond (fun _ => ?_) fun _ => ?_) | (with_reducible refine Tot.on fun _ _ => ?_) | split))
  ·have h1 : decide ((0 : Int) < ((i : Nat) : Int)) = false := by simpa using hi
   simp only [h1, Bool.false_and, guardO, Bool.false_eq_true, if_false, cond_false]
   exact hr
theorem Z38_ok (a : TRef) (ha : a.FWraps.l.length ≤ 1048576) : Ok (Z38_q a) := by
 unfold Z38_q
 (repeat' (first | exact Tot.some _ | assumption | (with_reducible refine Tot.bind ?_ fun _ _ => ?_) | (with_reducible refine Tot.guard (fun _ => ?_) fun _ _ _ => ?_) | (with_reducible refine Tot.cond (fun _ => ?_) fun _ => ?_) | (with_reducible refine Tot.on fun _ _ => ?_) | split))
 exact Z38_loop a ha _ _ (by simp)
theorem Z28_loop (k : TValue → Option Int) (l : List TValue) (s : Int) (hk : ∀ x ∈ l, ∃ r, k x = some r ∧ 1 ≤ r ∧ r ≤ x.sz) (hs : 0 ≤ s) (hb : s + ((l.map TValue.sz).sum : Nat) ≤ 1152921504606846976) : ∃ r, Z28_q7 k l s = some r ∧ s ≤ r ∧ r ≤ s + ((l.map TValue.sz).sum : Nat) := by
 induction l generalizing s with
 | nil => exact ⟨s, rfl, by simp, by simp⟩
 | cons x r ih =>
  obtain ⟨v, h1, h2, h3⟩ := hk x List.mem_cons_self
  simp only [List.map_cons, List.sum_cons] at hb ⊢
  rw [Z28_q7]
  simp only [on, h1, Option.bind_some]
  rw [addC_ok (by omega)]
  simp only [Option.bind_some]
  obtain ⟨w, h4, h5, h6⟩ := ih (s + v) (fun y hy => hk y (List.mem_cons_of_mem _ hy)) (by omega) (by omega)
  exact ⟨w, h4, by omega, by omega⟩
theorem TValue.item_lt {v x : TValue} (h : x ∈ v.FItems.l) : x.sz < v.sz := by
 have h1 := v.sz_def; have h2 := Sl.mem_le (f := TValue.sz) h; omega
theorem TValue.items_sum (v : TValue) : 2 + (v.FItems.l.map TValue.sz).sum ≤ v.sz := by
 have h1 := v.sz_def; have h2 : Sl.sz TValue.sz v.FItems = 1 + (v.FItems.l.map TValue.sz).sum := rfl; omega
theorem Z28_tot (n : Nat) : ∀ v : TValue, v.sz < n → v.sz ≤ 1073741824 → ∃ r, Z28_qn n v = some r ∧ 1 ≤ r ∧ r ≤ v.sz := by
 induction n with
 | zero => intro v h; omega
 | succ n ih =>
  intro v h hb
  have h0 := v.items_sum
  obtain ⟨w, h4, h5, h6⟩ := Z28_loop (Z28_qn n) v.FItems.l 1 (fun x hx => by have := TValue.item_lt hx; exact ih x (by omega) (by omega)) (by omega) (by omega)
  rw [Z28_qn, h4]
  exact ⟨w, rfl, by omega, by omega⟩
theorem Z28_ok (v : TValue) (h : v.sz ≤ 1048576) : ∃ r, Z28_q v = some r ∧ 1 ≤ r ∧ r ≤ v.sz := Z28_tot F0 v (by rw [F0_eq]; omega) (by omega)
theorem Z25_loop (k : TValue → Option Int) (l : List TValue) (s b : Int) (hk : ∀ x ∈ l, ∃ r, k x = some r ∧ 1 ≤ r ∧ r ≤ b) (hs : 0 ≤ s ∧ s ≤ b) : ∃ r, Z25_q8 k l s = some r ∧ 0 ≤ r ∧ r ≤ b := by
 induction l generalizing s with
 | nil => exact ⟨s, rfl, by omega, by omega⟩
 | cons x r ih =>
  obtain ⟨v, h1, h2, h3⟩ := hk x List.mem_cons_self
  rw [Z25_q8]
  simp only [on, h1, Option.bind_some]
  exact ih _ (fun y hy => hk y (List.mem_cons_of_mem _ hy)) (by split <;> omega)
theorem Z25_tot (n : Nat) : ∀ v : TValue, v.sz < n → v.sz ≤ 1073741824 → ∃ r, Z25_qn n v = some r ∧ 1 ≤ r ∧ r ≤ v.sz := by
 induction n with
 | zero => intro v h; omega
 | succ n ih =>
  intro v h hb
  have h0 := v.items_sum
  obtain ⟨w, h4, h5, h6⟩ := Z25_loop (Z25_qn n) v.FItems.l 0 (v.sz - 1 : Nat) (fun x hx => by have := TValue.item_lt hx; obtain ⟨r, h7, h8, h9⟩ := ih x (by omega) (by omega); exact ⟨r, h7, h8, by omega⟩) (by omega)
  rw [Z25_qn, h4]
  simp only [on, Option.bind_some]
  rw [addC_ok (by omega)]
  exact ⟨w + 1, rfl, by omega, by omega⟩
theorem Z25_ok (v : TValue) (h : v.sz ≤ 1048576) : Ok (Z25_q v) := by
 obtain ⟨r, hr, _⟩ := Z25_tot F0 v (by rw [F0_eq]; omega) (by omega); exact ⟨r, hr⟩
theorem Z31_in (a : Sl Bs) (x : Bs) (m i : Nat) (h : i + m ≤ a.l.length) : Ok (Z31_q13 a x m i) := by
 induction m generalizing i with
 | zero => exact Tot.some _
 | succ m ih =>
  rw [Z31_q13]
  (repeat' (first | exact Tot.some _ | assumption | (with_reducible refine Tot.bind ?_ fun _ _ => ?_) | (with_reducible refine Tot.guard (fun _ => ?_) fun _ _ _ => ?_) | (with_reducible refine Tot.cond (fun _ => ?_) fun _ => ?_) | (with_reducible refine Tot.on fun _ _ => ?_) | split))
  ·exact get_ok (by omega)
  ·exact ih _ (by omega)
theorem Z31_out (a : Sl Bs) (l : List Bs) (i : Nat) (h : i + l.length = a.l.length) : Ok (Z31_q5 a l i) := by
 induction l generalizing i with
 | nil => exact Tot.some _
 | cons x r ih =>
  simp only [List.length_cons] at h
  rw [Z31_q5]
  (repeat' (first | exact Tot.some _ | assumption | (with_reducible refine Tot.bind ?_ fun _ _ => ?_) | (with_reducible refine Tot.guard (fun _ => ?_) fun _ _ _ => ?_) | (with_reducible refine Tot.cond (fun _ => ?_) fun _ => ?_) | (with_reducible refine Tot.on fun _ _ => ?_) | split))
  ·exact Z31_in a x _ _ (by omega)
  ·exact ih _ (by omega)
theorem Z31_ok (a : Sl Bs) : Ok (Z31_q a) := by
 unfold Z31_q
 (repeat' (first | exact Tot.some _ | assumption | (with_reducible refine Tot.bind ?_ fun _ _ => ?_) | (with_reducible refine Tot.guard (fun _ => ?_) fun _ _ _ => ?_) | (with_reducible refine Tot.cond (fun _ => ?_) fun _ => ?_) | (with_reducible refine Tot.on fun _ _ => ?_) | split))
 exact Z31_out a _ _ (by simp)
theorem Z30_ok (v : TValue) (b : Bool) : Ok (Z30_q v b) := by
 unfold Z30_q
 (repeat' (first | exact Tot.some _ | assumption | (with_reducible refine Tot.bind ?_ fun _ _ => ?_) | (with_reducible refine Tot.guard (fun _ => ?_) fun _ _ _ => ?_) | (with_reducible refine Tot.cond (fun _ => ?_) fun _ => ?_) | (with_reducible refine Tot.on fun _ _ => ?_) | split))
 exact Z31_ok _
theorem Z32_loop (b : Bool) (k : TValue → Bool → Option Bool) (l : List TValue) (hk : ∀ x ∈ l, Ok (k x b)) : Ok (Z32_q11 b k l) := by
 induction l with
 | nil => exact Tot.some _
 | cons x r ih =>
  rw [Z32_q11]
  (repeat' (first | exact Tot.some _ | assumption | (with_reducible refine Tot.bind ?_ fun _ _ => ?_) | (with_reducible refine Tot.guard (fun _ => ?_) fun _ _ _ => ?_) | (with_reducible refine Tot.cond (fun _ => ?_) fun _ => ?_) | (with_reducible refine Tot.on fun _ _ => ?_) | split))
  ·rename_i h; rw [h]; exact hk x List.mem_cons_self
  ·exact ih fun y hy => hk y (List.mem_cons_of_mem _ hy)
theorem Z32_tot (n : Nat) : ∀ (v : TValue) (b : Bool), v.sz < n → Ok (Z32_qn n v b) := by
 induction n with
 | zero => intro v b h; omega
 | succ n ih =>
  intro v b h
  rw [Z32_qn]
  (repeat' (first | exact Tot.some _ | assumption | (with_reducible refine Tot.bind ?_ fun _ _ => ?_) | (with_reducible refine Tot.guard (fun _ => ?_) fun _ _ _ => ?_) | (with_reducible refine Tot.cond (fun _ => ?_) fun _ => ?_) | (with_reducible refine Tot.on fun _ _ => ?_) | split))
  ·exact Z30_ok _ _
  ·exact Z32_loop b _ _ fun x hx => ih x b (by have := TValue.item_lt hx; omega)
theorem Z27_ok (v : TValue) (h : v.sz ≤ 1048576) : Ok (Z27_q v) := by
 unfold Z27_q
 obtain ⟨r, hr, _⟩ := Z28_ok v h
 (repeat' (first | exact Tot.some _ | assumption | (with_reducible refine Tot.bind ?_ fun _ _ => ?_) | (with_reducible refine Tot.guard (fun _ => ?_) fun _ _ _ => ?_) | (with_reducible refine Tot.cond (fun _ => ?_) fun _ => ?_) | (with_reducible refine Tot.on fun _ _ => ?_) | split))
 ·exact ⟨r, hr⟩
 ·exact Z25_ok v h
 ·exact Z32_tot F0 v true (by rw [F0_eq]; omega)
theorem Z42_loop (k : TValue → Option Bool) (l : List TValue) (hk : ∀ x ∈ l, Ok (k x)) : Ok (Z42_q5 k l) := by
 induction l with
 | nil => exact Tot.some _
 | cons x r ih =>
  rw [Z42_q5]
  (repeat' (first | exact Tot.some _ | assumption | (with_reducible refine Tot.bind ?_ fun _ _ => ?_) | (with_reducible refine Tot.guard (fun _ => ?_) fun _ _ _ => ?_) | (with_reducible refine Tot.cond (fun _ => ?_) fun _ => ?_) | (with_reducible refine Tot.on fun _ _ => ?_) | split))
  ·rename_i h; rw [h]; exact hk x List.mem_cons_self
  ·exact ih fun y hy => hk y (List.mem_cons_of_mem _ hy)
theorem Z42_tot (n : Nat) : ∀ (v : TValue), v.sz < n → Ok (Z42_qn n v) := by
 induction n with
 | zero => intro v h; omega
 | succ n ih =>
  intro v h
  rw [Z42_qn]
  (repeat' (first | exact Tot.some _ | assumption | (with_reducible refine Tot.bind ?_ fun _ _ => ?_) | (with_reducible refine Tot.guard (fun _ => ?_) fun _ _ _ => ?_) | (with_reducible refine Tot.cond (fun _ => ?_) fun _ => ?_) | (with_reducible refine Tot.on fun _ _ => ?_) | split))
  exact Z42_loop _ _ fun x hx => ih x (by have := TValue.item_lt hx; omega)
theorem Z42_ok (v : TValue) (h : v.sz ≤ 1048576) : Ok (Z42_q v) := Z42_tot F0 v (by rw [F0_eq]; omega)
theorem TArg.value_le (a : TArg) : a.FValue.sz ≤ a.sz := by have := a.sz_def; omega
theorem TDir.arg_le {x : TDir} {a : TArg} (h : a ∈ x.FArgs.l) : a.sz ≤ x.sz := by have := x.sz_def; have := Sl.mem_le (f := TArg.sz) h; omega
theorem Z44_in (h10 : TDir) (l : List TArg) (h : ∀ a ∈ l, a.sz ≤ 1048576) : Ok (Z44_q25 h10 l) := by
 induction l with
 | nil => exact Tot.some _
 | cons x r ih =>
  have h1 := h x List.mem_cons_self; have h2 := x.value_le
  rw [Z44_q25]
  (repeat' (first | exact Tot.some _ | assumption | (with_reducible refine Tot.bind ?_ fun _ _ => ?_) | (with_reducible refine Tot.guard (fun _ => ?_) fun _ _ _ => ?_) | (with_reducible refine Tot.cond (fun _ => ?_) fun _ => ?_) | (with_reducible refine Tot.on fun _ _ => ?_) | split))
  all_goals first | exact ih fun y hy => h y (List.mem_cons_of_mem _ hy) | (subst_vars; first | exact Z27_ok _ (by omega) | exact Z42_ok _ (by omega))
theorem Z44_loop (l : List TDir) (h : ∀ a ∈ l, a.sz ≤ 1048576) : Ok (Z44_q10 l) := by
 induction l with
 | nil => exact Tot.some _
 | cons x r ih =>
  have h1 := h x List.mem_cons_self
  rw [Z44_q10]
  (repeat' (first | exact Tot.some _ | assumption | (with_reducible refine Tot.bind ?_ fun _ _ => ?_) | (with_reducible refine Tot.guard (fun _ => ?_) fun _ _ _ => ?_) | (with_reducible refine Tot.cond (fun _ => ?_) fun _ => ?_) | (with_reducible refine Tot.on fun _ _ => ?_) | split))
  ·exact Z44_in x _ fun a ha => by have := TDir.arg_le ha; omega
  ·exact ih fun y hy => h y (List.mem_cons_of_mem _ hy)
theorem Z44_ok (s : Sl TDir) (h : Sl.sz TDir.sz s ≤ 1048576) : Ok (Z44_q s) := by
 unfold Z44_q
 (repeat' (first | exact Tot.some _ | assumption | (with_reducible refine Tot.bind ?_ fun _ _ => ?_) | (with_reducible refine Tot.guard (fun _ => ?_) fun _ _ _ => ?_) | (with_reducible refine Tot.cond (fun _ => ?_) fun _ => ?_) | (with_reducible refine Tot.on fun _ _ => ?_) | split))
 exact Z44_loop _ fun a ha => by have := Sl.mem_le (f := TDir.sz) ha; omega
theorem TRef.wraps_le (r : TRef) : r.FWraps.l.length ≤ r.sz := by have := r.sz_def; have := Sl.len_le (f := fun _ : Int => 1) r.FWraps (fun _ => Nat.le_refl _); omega
theorem Z46_loop (l : List TInput) (h : ∀ a ∈ l, a.sz ≤ 1048576) : Ok (Z46_q10 l) := by
 induction l with
 | nil => exact Tot.some _
 | cons x r ih =>
  have h1 := h x List.mem_cons_self; have h2 := x.sz_def; have h3 := x.FType.wraps_le
  rw [Z46_q10]
  (repeat' (first | exact Tot.some _ | assumption | (with_reducible refine Tot.bind ?_ fun _ _ => ?_) | (with_reducible refine Tot.guard (fun _ => ?_) fun _ _ _ => ?_) | (with_reducible refine Tot.cond (fun _ => ?_) fun _ => ?_) | (with_reducible refine Tot.on fun _ _ => ?_) | split))
  all_goals first | exact ih fun y hy => h y (List.mem_cons_of_mem _ hy) | (subst_vars; first | exact Z38_ok _ (by omega) | exact Z44_ok _ (by omega) | exact Z27_ok _ (by omega) | exact Z42_ok _ (by omega))
theorem Z46_ok (s : Sl TInput) (h : Sl.sz TInput.sz s ≤ 1048576) : Ok (Z46_q s) := by
 unfold Z46_q
 (repeat' (first | exact Tot.some _ | assumption | (with_reducible refine Tot.bind ?_ fun _ _ => ?_) | (with_reducible refine Tot.guard (fun _ => ?_) fun _ _ _ => ?_) | (with_reducible refine Tot.cond (fun _ => ?_) fun _ => ?_) | (with_reducible refine Tot.on fun _ _ => ?_) | split))
 exact Z46_loop _ fun a ha => by have := Sl.mem_le (f := TInput.sz) ha; omega
theorem Z45_loop (l : List TField) (h : ∀ a ∈ l, a.sz ≤ 1048576) : Ok (Z45_q10 l) := by
 induction l with
 | nil => exact Tot.some _
 | cons x r ih =>
  have h1 := h x List.mem_cons_self; have h2 := x.sz_def; have h3 := x.FType.wraps_le
  have hz : TField.zero.FType.FWraps.l.length ≤ 1048576 := by decide
  rw [Z45_q10]
  simp only [on]
  cases Z21_q x.FName <;> simp only [Bool.not_true, Bool.not_false, cond_true, cond_false, Bool.or_false, Bool.or_true, Bool.true_or, Bool.false_or]
  ·simp [guardO]; exact Tot.some _
  ·obtain ⟨b1, e1⟩ := Z46_ok x.FArgs (by omega)
   obtain ⟨b2, e2⟩ := Z38_ok x.FType (by omega)
   obtain ⟨b3, e3⟩ := Z44_ok x.FDirs (by omega)
   have hr := ih fun y hy => h y (List.mem_cons_of_mem _ hy)
   cases b1 <;> cases b2 <;> cases b3 <;> simp [guardO, e1, e2, e3] <;> first | exact Tot.some _ | exact hr
theorem Z45_ok (s : Sl TField) (h : Sl.sz TField.sz s ≤ 1048576) : Ok (Z45_q s) := by
 unfold Z45_q
 (repeat' (first | exact Tot.some _ | assumption | (with_reducible refine Tot.bind ?_ fun _ _ => ?_) | (with_reducible refine Tot.guard (fun _ => ?_) fun _ _ _ => ?_) | (with_reducible refine Tot.cond (fun _ => ?_) fun _ => ?_) | (with_reducible refine Tot.on fun _ _ => ?_) | split))
 exact Z45_loop _ fun a ha => by have := Sl.mem_le (f := TField.sz) ha; omega
theorem Z47_loop (b : Bool) (l : List TMember) (h : ∀ a ∈ l, a.sz ≤ 1048576) : Ok (Z47_q10 b l) := by
 induction l with
 | nil => exact Tot.some _
 | cons x r ih =>
  have h1 := h x List.mem_cons_self; have h2 := x.sz_def
  rw [Z47_q10]
  simp only [on]
  cases Z21_q x.FName <;> simp only [Bool.not_true, Bool.not_false, cond_true, cond_false, Bool.or_false, Bool.or_true, Bool.true_or, Bool.false_or]
  ·simp [guardO]; exact Tot.some _
  ·obtain ⟨b3, e3⟩ := Z44_ok x.FDirs (by omega)
   have hr := ih fun y hy => h y (List.mem_cons_of_mem _ hy)
   simp only [guardO, e3, if_true, Option.bind_some]
   (repeat' (first | exact Tot.some _ | assumption | (with_reducible refine Tot.bind ?_ fun _ _ => ?_) | (with_reducible refine Tot.guard (fun _ => ?_) fun _ _ _ => ?_) | (with_reducible refine Tot.cond (fun _ => ?_) fun _ => ?_) | (with_reducible refine Tot.on fun _ _ => ?_) | split))
theorem Z47_ok (s : Sl TMember) (b : Bool) (h : Sl.sz TMember.sz s ≤ 1048576) : Ok (Z47_q s b) := by
 unfold Z47_q
 (repeat' (first | exact Tot.some _ | assumption | (with_reducible refine Tot.bind ?_ fun _ _ => ?_) | (with_reducible refine Tot.guard (fun _ => ?_) fun _ _ _ => ?_) | (with_reducible refine Tot.cond (fun _ => ?_) fun _ => ?_) | (with_reducible refine Tot.on fun _ _ => ?_) | split))
 exact Z47_loop _ _ fun a ha => by have := Sl.mem_le (f := TMember.sz) ha; omega
theorem Z43_ok (x : TDef) (h : x.sz ≤ 1048576) : Ok (Z43_q x) := by
 have h2 := x.sz_def
 unfold Z43_q
 (repeat' (first | exact Tot.some _ | assumption | (with_reducible refine Tot.bind ?_ fun _ _ => ?_) | (with_reducible refine Tot.guard (fun _ => ?_) fun _ _ _ => ?_) | (with_reducible refine Tot.cond (fun _ => ?_) fun _ => ?_) | (with_reducible refine Tot.on fun _ _ => ?_) | split))
 all_goals first | exact Z44_ok _ (by omega) | exact Z45_ok _ (by omega) | exact Z47_ok _ _ (by omega) | exact Z46_ok _ (by omega)
theorem Z40_loop (l : List TDef) (h : ∀ a ∈ l, a.sz ≤ 1048576) : Ok (Z40_q10 l) := by
 induction l with
 | nil => exact Tot.some _
 | cons x r ih =>
  rw [Z40_q10]
  (repeat' (first | exact Tot.some _ | assumption | (with_reducible refine Tot.bind ?_ fun _ _ => ?_) | (with_reducible refine Tot.guard (fun _ => ?_) fun _ _ _ => ?_) | (with_reducible refine Tot.cond (fun _ => ?_) fun _ => ?_) | (with_reducible refine Tot.on fun _ _ => ?_) | split))
  ·subst_vars; exact Z43_ok _ (h _ List.mem_cons_self)
  ·exact ih fun y hy => h y (List.mem_cons_of_mem _ hy)
theorem TDoc.def_le {d : TDoc} {x : TDef} (h : x ∈ d.FDefs.l) : x.sz ≤ d.sz := by have := d.sz_def; have := Sl.mem_le (f := TDef.sz) h; omega
theorem Z40_ok (d : TDoc) (h : d.sz ≤ 1048576) : Ok (Z40_q d) := by
 unfold Z40_q
 (repeat' (first | exact Tot.some _ | assumption | (with_reducible refine Tot.bind ?_ fun _ _ => ?_) | (with_reducible refine Tot.guard (fun _ => ?_) fun _ _ _ => ?_) | (with_reducible refine Tot.cond (fun _ => ?_) fun _ => ?_) | (with_reducible refine Tot.on fun _ _ => ?_) | split))
 exact Z40_loop _ fun a ha => by have := TDoc.def_le ha; omega
end Go.Proofs

namespace Go.Proofs
open Go Go.Ab
theorem condE {α : Type} {c : Bool} {a b : Option α} {z : α} (h : cond c a b = some z) : (c = true ∧ a = some z) ∨ (c = false ∧ b = some z) := by cases c; exact .inr ⟨rfl, h⟩; exact .inl ⟨rfl, h⟩
theorem guardE {α β : Type} {c : Bool} {o : Option α} {d : α} {k : α → Option β} {z : β} (h : guardO c o d k = some z) : (c = true ∧ ∃ v, o = some v ∧ k v = some z) ∨ (c = false ∧ k d = some z) := by
  unfold guardO at h
  cases c with
  | true => obtain ⟨v, e, h⟩ := bindO_some (by simpa using h); exact .inl ⟨rfl, v, e, h⟩
  | false => exact .inr ⟨rfl, by simpa using h⟩
theorem literal_is {v : TValue} (h : Z27_q v = some true) : Z32_qn F0 v true = some true := by
  unfold Z27_q at h
  obtain ⟨a, _, h⟩ := bindO_some h
  rcases guardE h with ⟨_, b, _, h⟩ | ⟨_, h⟩
  · rcases guardE h with ⟨_, c, e, h⟩ | ⟨_, h⟩
    · simp at h; rw [h.2] at e; exact e
    · simp at h
  · rcases guardE h with ⟨_, c, e, h⟩ | ⟨_, h⟩
    · simp at h; rw [h.2] at e; exact e
    · simp at h
theorem inputs_right (l : List TInput) (z : Unit ⊕ Bool) (h : Z46_q10 l = some z) : (z = Sum.inl () ∧ ∀ x ∈ l, x.FHas = true → Z27_q x.FDefault = some true) ∨ z = Sum.inr false := by
  induction l generalizing z with
  | nil => rw [Z46_q10] at h; exact .inl ⟨(Option.some.inj h).symm, fun a ha => by cases ha⟩
  | cons a r ih =>
    rw [Z46_q10] at h
    simp only [Ab.on] at h
    have step : ∀ (x27 : Bool), (a.FHas = true → Z27_q a.FDefault = some x27) → ∀ x28 : Bool, (bif ((a.FHas && ((!x27) || (!x28))) || ((!a.FHas) && (!(bif (!(a.FHas && ((!x27) || (!x28))) && (!a.FHas)) then Z48_q a.FDefault else false)))) then (some (Sum.inr false)) else (Z46_q10 r)) = some z →
        (z = Sum.inl () ∧ ∀ x ∈ a :: r, x.FHas = true → Z27_q x.FDefault = some true) ∨ z = Sum.inr false := by
      intro x27 e x28 h
      rcases condE h with ⟨_, h⟩ | ⟨hc, h⟩
      · exact .inr (Option.some.inj h).symm
      · rcases ih z h with ⟨h1, h2⟩ | h1
        · refine .inl ⟨h1, fun x hx hh => ?_⟩
          rcases List.mem_cons.1 hx with rfl | hx
          · have := e hh
            rw [hh] at hc
            cases x27 with
            | true => exact this
            | false => simp at hc
          · exact h2 x hx hh
        · exact .inr h1
    rcases guardE h with ⟨_, x22, _, h⟩ | ⟨_, h⟩ <;> rcases guardE h with ⟨_, x23, _, h⟩ | ⟨_, h⟩ <;> rcases condE h with ⟨_, h⟩ | ⟨_, h⟩
    all_goals first
      | exact .inr (Option.some.inj h).symm
      | (rcases guardE h with ⟨_, x27, e27, h⟩ | ⟨e27, h⟩
         · rcases guardE h with ⟨_, x28, _, h⟩ | ⟨_, h⟩
           · exact step x27 (fun _ => e27) x28 h
           · exact step x27 (fun _ => e27) false h
         · rcases guardE h with ⟨_, x28, _, h⟩ | ⟨_, h⟩
           · exact step false (fun hh => by rw [hh] at e27; cases e27) x28 h
           · exact step false (fun hh => by rw [hh] at e27; cases e27) false h)
end Go.Proofs

namespace Go.Proofs
open Go Go.Ab
theorem inputsRight_w {s : Sl TInput} (h : Z46_q s = some true) : ∀ x ∈ s.l, x.FHas = true → Z27_q x.FDefault = some true := by
  unfold Z46_q at h
  rcases condE h with ⟨_, h⟩ | ⟨_, h⟩
  · cases h
  · obtain ⟨z, g, h⟩ := bindO_some h
    rcases inputs_right _ _ g with ⟨_, h1⟩ | rfl
    · exact h1
    · cases h
theorem defs34 (l : List Bs) (y : Bool) (h : Z43_q34 l = Sum.inr y) : y = false := by
  induction l with
  | nil => cases h
  | cons a r ih =>
    rw [Z43_q34] at h
    simp only [Ab.on] at h
    revert h
    cases (!Z21_q a) with
    | true => intro h; exact (Sum.inr.inj h).symm
    | false => exact ih
theorem def_right {t : TDef} (h : Z43_q t = some true) : ∀ x ∈ t.FInputs.l, x.FHas = true → Z27_q x.FDefault = some true := by
  have nil : t.FInputs.l = [] → ∀ x ∈ t.FInputs.l, x.FHas = true → Z27_q x.FDefault = some true := fun e x hx => by rw [e] at hx; cases hx
  have fin : ∀ c : Bool, (some (c && decide (((t.FInputs.l.length : Nat) : Int) = (0 : Int)))) = some true → t.FInputs.l = [] := fun c h => by
    simp at h; exact h.2
  unfold Z43_q at h
  simp only [Ab.on] at h
  rcases guardE h with ⟨_, x5, _, h⟩ | ⟨_, h⟩ <;> rcases condE h with ⟨_, h⟩ | ⟨_, h⟩
  all_goals first
    | (cases h; done)
    | (cases e : Z43_q34 t.FImplements.l with
       | inr y => rw [e] at h; have := defs34 _ _ e; subst this; cases h
       | inl _ =>
         rw [e] at h
         simp only at h
         rcases condE h with ⟨_, h⟩ | ⟨_, h⟩
         · obtain ⟨x15, _, h⟩ := bindO_some h
           exact nil (fin _ h)
         · rcases condE h with ⟨_, h⟩ | ⟨_, h⟩
           · rcases guardE h with ⟨_, x, _, h⟩ | ⟨_, h⟩ <;> exact nil (fin _ h)
           · rcases condE h with ⟨_, h⟩ | ⟨_, h⟩
             · rcases guardE h with ⟨_, x, _, h⟩ | ⟨_, h⟩ <;> exact nil (fin _ h)
             · rcases condE h with ⟨_, h⟩ | ⟨_, h⟩
               · rcases guardE h with ⟨_, x, _, h⟩ | ⟨_, h⟩ <;> exact nil (fin _ h)
               · rcases condE h with ⟨_, h⟩ | ⟨_, h⟩
                 · rcases guardE h with ⟨_, x, ex, h⟩ | ⟨_, h⟩
                   · simp at h; rw [h.2] at ex; exact inputsRight_w ex
                   · simp at h
                 · cases h)
theorem docs_right (l : List TDef) (z : Unit ⊕ Bool) (h : Z40_q10 l = some z) : (z = Sum.inl () ∧ ∀ x ∈ l, Z43_q x = some true) ∨ z = Sum.inr false := by
  induction l generalizing z with
  | nil => rw [Z40_q10] at h; exact .inl ⟨(Option.some.inj h).symm, fun a ha => by cases ha⟩
  | cons a r ih =>
    rw [Z40_q10] at h
    simp only [Ab.on] at h
    obtain ⟨x, g, h⟩ := bindO_some h
    cases x with
    | false => simp at h; exact .inr h.symm
    | true =>
      simp only [Bool.not_true, cond_false] at h
      rcases ih z h with ⟨h1, h2⟩ | h1
      · exact .inl ⟨h1, fun y hy => by rcases List.mem_cons.1 hy with rfl | hy; exact g; exact h2 y hy⟩
      · exact .inr h1
theorem doc_right {d : TDoc} (h : Z40_q d = some true) : ∀ x ∈ d.FDefs.l, Z43_q x = some true := by
  unfold Z40_q at h
  rcases condE h with ⟨_, h⟩ | ⟨_, h⟩
  · cases h
  · obtain ⟨z, g, h⟩ := bindO_some h
    rcases docs_right _ _ g with ⟨_, h1⟩ | rfl
    · exact h1
    · cases h
end Go.Proofs

namespace Go.Proofs
open Go Go.Ab
theorem all2_self {α : Type} {R S : α → α → Prop} {l : List α} (h : All2 R l l) (hi : ∀ x ∈ l, R x x → S x x) : All2 S l l :=
 All2.of_get rfl fun i x y h1 h2 => by
  rw [h1] at h2; simp only [Option.some.injEq] at h2; subst h2
  obtain ⟨y, h3, h4⟩ := h.get h1
  rw [h1] at h3; simp only [Option.some.injEq] at h3; subst h3
  exact hi x (List.mem_of_getElem? h1) h4
theorem Rl.small : ∀ (m n : Nat) {v : TValue}, Rl n v v → v.sz ≤ m → Rl m v v
 | 0, _, v, _, hm => by have := v.pos; omega
 | _ + 1, 0, _, h, _ => h.elim
 | m + 1, n + 1, v, ⟨a, b, c, d, e, f, g, i, k⟩, hm => ⟨a, b, c, d, e, f, g, i, all2_self k fun x hx h => Rl.small m n h (by have := TValue.item_lt hx; omega)⟩
def nB : Nat := 1048576
theorem literal_rl {v : TValue} (h : Z27_q v = some true) (hw : v.wf) (hs : v.sz ≤ 1048576) : Rl nB v v := Rl.small _ _ (whole_rl F0 v true (literal_is h) hw hs) hs
theorem sok_wraps {t : TRef} (hw : t.wf) (hs : t.sz ≤ 1048576) : SOk t.FWraps := ⟨hw.2.1.1, by have := TRef.wraps_le t; omega⟩
theorem inOk_of {x : TInput} (hl : x.FHas = true → Z27_q x.FDefault = some true) (hw : x.wf) (hs : x.sz ≤ 1048576) : InOk nB x := by
 have := x.sz_def
 exact ⟨sok_wraps hw.2.1 (by omega), fun h => literal_rl (hl h) hw.2.2.2.1 (by omega)⟩
theorem defOk_of {t : TDef} (hl : ∀ x ∈ t.FInputs.l, x.FHas = true → Z27_q x.FDefault = some true) (hw : t.wf) (hs : t.sz ≤ 1048576) : DefOk nB t := by
 have h1 := t.sz_def
 have h2 := Sl.len_le (f := TInput.sz) t.FInputs (fun x => x.pos)
 exact ⟨by omega, fun x hx => inOk_of (hl x hx) (hw.2.2.2.2.2.2.1.2.2 x hx) (by have := Sl.mem_le (f := TInput.sz) hx; omega)⟩
theorem doc_ok {d : TDoc} (h : Z40_q d = some true) (hw : d.wf) (hs : d.sz ≤ 1048576) : ∀ s, DefOk nB (fnd d.FDefs.l s).1 := by
 intro s
 rcases fnd_mem d.FDefs.l s with e | hm
 ·rw [e]; exact ⟨by show 0 ≤ _; omega, fun x hx => by cases hx⟩
 ·exact defOk_of (def_right (doc_right h _ hm)) (hw.1.2.2 _ hm) (by have := TDoc.def_le hm; omega)
end Go.Proofs

namespace Go.Proofs
open Go Go.Ab
def Gr (o : Option Int) (s : Int) (b : Nat) : Prop := ∃ r, o = some r ∧ s ≤ r ∧ r ≤ s + b
theorem Gr.refl (s : Int) (b : Nat) : Gr (some s) s b := ⟨s, rfl, by omega, by omega⟩
theorem Gr.bind {o : Option Int} {k : Int → Option Int} {s : Int} {a b c : Nat} (h : Gr o s a) (hc : a + b ≤ c) (hk : ∀ r, s ≤ r → r ≤ s + a → Gr (k r) r b) : Gr (o.bind k) s c := by
 obtain ⟨r, e, h1, h2⟩ := h
 obtain ⟨r2, e2, h3, h4⟩ := hk r h1 h2
 exact ⟨r2, by rw [e]; exact e2, by omega, by omega⟩
theorem Gr.add {x s : Int} {b : Nat} (hx : 0 ≤ x ∧ x ≤ b) (hs : 0 ≤ s ∧ s + b ≤ 1099511627776) : Gr (addC s x) s b := ⟨s + x, addC_ok (by omega), by omega, by omega⟩
theorem Gr.part {o : Option Int} {s : Int} {b : Nat} (h : Gr o 0 b) (hs : 0 ≤ s ∧ s + b ≤ 1099511627776) : Gr (o.bind fun x => addC s x) s b := by
 obtain ⟨r, e, h1, h2⟩ := h
 rw [e]; exact Gr.add (by omega) hs
theorem keys_w (a1 : Int) : ∀ (l : List Bs) (s : Int), 0 ≤ s → s + (l.map Bs.sz).sum ≤ 1073741824 → Gr (Z33_q23 a1 l s) s (l.map Bs.sz).sum
 | [], s, _, _ => Gr.refl _ _
 | a :: r, s, h0, h => by
  simp only [List.map_cons, List.sum_cons] at h ⊢
  rw [Z33_q23]
  cases decide (s ≤ a1) with
  | false => exact Gr.refl _ _
  | true =>
   simp only [cond_true, Ab.on]
   have hb : Bs.sz a = a.length + 1 := rfl
   refine Gr.bind (a := 1) (b := a.length + (r.map Bs.sz).sum) (Gr.add (by omega) (by omega)) (by omega) fun x h1 h2 => ?_
   refine Gr.bind (a := a.length) (b := (r.map Bs.sz).sum) (Gr.add (by omega) (by omega)) (by omega) fun y h3 h4 => ?_
   exact keys_w a1 r y (by omega) (by omega)
theorem value_w (a1 : Int) (n : Nat) : ∀ v : TValue, v.sz < n → v.sz ≤ 1048576 → Gr (Z33_qn n v a1) 0 v.sz := by
 induction n with
 | zero => intro v h; omega
 | succ n ih =>
  intro v hn hs
  have hd := v.sz_def
  have ht : Bs.sz v.FText = v.FText.length + 1 := rfl
  have hk : Sl.sz Bs.sz v.FKeys = 1 + (v.FKeys.l.map Bs.sz).sum := rfl
  have hi : Sl.sz TValue.sz v.FItems = 1 + (v.FItems.l.map TValue.sz).sum := rfl
  have hl : ∀ (l : List TValue) (s : Int), (∀ x ∈ l, x.sz < n ∧ x.sz ≤ 1048576) → 0 ≤ s → s + (l.map TValue.sz).sum ≤ 1073741824 → Gr (Z33_q11 a1 (Z33_qn n) l s) s (l.map TValue.sz).sum := by
   intro l
   induction l with
   | nil => intro s _ _ _; exact Gr.refl _ _
   | cons a r ihl =>
    intro s hx h0 h
    simp only [List.map_cons, List.sum_cons] at h ⊢
    rw [Z33_q11]
    cases decide (s ≤ a1) with
    | false => exact Gr.refl _ _
    | true =>
     simp only [cond_true, Ab.on]
     obtain ⟨w, e, h1, h2⟩ := ih a (hx a (by simp)).1 (hx a (by simp)).2
     rw [e, Option.bind_some]
     refine Gr.bind (a := a.sz) (b := (r.map TValue.sz).sum) (Gr.add (by omega) (by omega)) (by omega) fun y h3 h4 => ?_
     exact ihl y (fun x hx' => hx x (by simp [hx'])) (by omega) (by omega)
  rw [Z33_qn, addC_ok (by omega), Option.bind_some]
  simp only [Ab.on]
  obtain ⟨x, e1, x1, x2⟩ := keys_w a1 v.FKeys.l (1 + (v.FText.length : Int)) (by omega) (by omega)
  rw [e1, Option.bind_some]
  obtain ⟨y, e2, y1, y2⟩ := hl v.FItems.l x (fun z hz => by have := TValue.item_lt hz; omega) (by omega) (by omega)
  rw [e2]
  exact ⟨y, rfl, by omega, by omega⟩
theorem value_W (a1 : Int) (v : TValue) (h : v.sz ≤ 1048576) : Gr (Z33_q v a1) 0 v.sz := value_w a1 F0 v (by rw [F0_eq]; omega) h
end Go.Proofs

namespace Go.Proofs
open Go Go.Ab
theorem Gr.two {o : Option Int} {k : Int → Option Int} {s : Int} {a b c : Nat} (h : Gr o 0 a) (hs : 0 ≤ s ∧ s + a ≤ 1099511627776) (hc : a + b ≤ c) (hk : ∀ r, s ≤ r → r ≤ s + a → Gr (k r) r b) : Gr (o.bind fun x => (addC s x).bind k) s c := by
 obtain ⟨x, e, h1, h2⟩ := h
 rw [e, Option.bind_some]
 exact Gr.bind (a := a) (b := b) (Gr.add (by omega) hs) hc hk
theorem args_w (a1 : Int) (h7 : TDir) : ∀ (l : List TArg) (s : Int), (∀ x ∈ l, x.sz ≤ 1048576) → 0 ≤ s → s + (l.map TArg.sz).sum ≤ 1073741824 → Gr (Z49_q19 a1 h7 l s) s (l.map TArg.sz).sum
 | [], s, _, _, _ => Gr.refl _ _
 | a :: r, s, hx, h0, h => by
  simp only [List.map_cons, List.sum_cons] at h ⊢
  have hd := a.sz_def
  have hp := Bs.sz_pos a.FName
  have hxa := hx a (by simp)
  rw [Z49_q19]
  cases decide (s ≤ a1) with
  | false => exact Gr.refl _ _
  | true =>
   simp only [cond_true, Ab.on]
   refine Gr.bind (a := 1) (b := a.FValue.sz + (r.map TArg.sz).sum) (Gr.add (by omega) (by omega)) (by omega) fun x h1 h2 => ?_
   exact Gr.two (b := (r.map TArg.sz).sum) (value_W a1 a.FValue (by omega)) (by omega) (by omega) fun y h3 h4 => args_w a1 h7 r y (fun z hz => hx z (by simp [hz])) (by omega) (by omega)
theorem dirs_loop_w (a1 : Int) : ∀ (l : List TDir) (s : Int), (∀ x ∈ l, x.sz ≤ 1048576) → 0 ≤ s → s + (l.map TDir.sz).sum ≤ 1073741824 → Gr (Z49_q7 a1 l s) s (l.map TDir.sz).sum
 | [], s, _, _, _ => Gr.refl _ _
 | a :: r, s, hx, h0, h => by
  simp only [List.map_cons, List.sum_cons] at h ⊢
  have hd := a.sz_def
  have hp := Bs.sz_pos a.FName
  have hi : Sl.sz TArg.sz a.FArgs = 1 + (a.FArgs.l.map TArg.sz).sum := rfl
  have hxa := hx a (by simp)
  rw [Z49_q7]
  cases decide (s ≤ a1) with
  | false => exact Gr.refl _ _
  | true =>
   simp only [cond_true, Ab.on]
   refine Gr.bind (a := 1) (b := (a.FArgs.l.map TArg.sz).sum + (r.map TDir.sz).sum) (Gr.add (by omega) (by omega)) (by omega) fun x h1 h2 => ?_
   exact Gr.bind (b := (r.map TDir.sz).sum) (args_w a1 a a.FArgs.l x (fun z hz => by have := TDir.arg_le hz; omega) (by omega) (by omega)) (by omega) fun y h3 h4 => dirs_loop_w a1 r y (fun z hz => hx z (by simp [hz])) (by omega) (by omega)
theorem dirs_w (a1 : Int) (s : Sl TDir) (h : Sl.sz TDir.sz s ≤ 1048576) : Gr (Z49_q s a1) 0 (Sl.sz TDir.sz s) := by
 have hi : Sl.sz TDir.sz s = 1 + (s.l.map TDir.sz).sum := rfl
 obtain ⟨r, e, h1, h2⟩ := dirs_loop_w a1 s.l 0 (fun x hx => by have := Sl.mem_le (f := TDir.sz) hx; omega) (by omega) (by omega)
 unfold Z49_q; rw [e]; exact ⟨r, rfl, h1, by omega⟩
theorem inputs_loop_w (a1 : Int) : ∀ (l : List TInput) (s : Int), (∀ x ∈ l, x.sz ≤ 1048576) → 0 ≤ s → s + (l.map TInput.sz).sum ≤ 1073741824 → Gr (Z50_q7 a1 l s) s (l.map TInput.sz).sum
 | [], s, _, _, _ => Gr.refl _ _
 | a :: r, s, hx, h0, h => by
  simp only [List.map_cons, List.sum_cons] at h ⊢
  have hd := a.sz_def
  have hp := Bs.sz_pos a.FName
  have hw := TRef.wraps_le a.FType
  have hxa := hx a (by simp)
  rw [Z50_q7]
  cases decide (s ≤ a1) with
  | false => exact Gr.refl _ _
  | true =>
   simp only [cond_true, Ab.on]
   refine Gr.bind (a := 1) (b := a.FType.FWraps.l.length + a.FDefault.sz + Sl.sz TDir.sz a.FDirs + (r.map TInput.sz).sum) (Gr.add (by omega) (by omega)) (by omega) fun x h1 h2 => ?_
   refine Gr.bind (a := a.FType.FWraps.l.length) (b := a.FDefault.sz + Sl.sz TDir.sz a.FDirs + (r.map TInput.sz).sum) (Gr.add (by omega) (by omega)) (by omega) fun y h3 h4 => ?_
   refine Gr.two (b := Sl.sz TDir.sz a.FDirs + (r.map TInput.sz).sum) (value_W a1 a.FDefault (by omega)) (by omega) (by omega) fun z h5 h6 => ?_
   exact Gr.two (b := (r.map TInput.sz).sum) (dirs_w a1 a.FDirs (by omega)) (by omega) (by omega) fun q h7 h8 => inputs_loop_w a1 r q (fun z hz => hx z (by simp [hz])) (by omega) (by omega)
theorem inputs_w (a1 : Int) (s : Sl TInput) (h : Sl.sz TInput.sz s ≤ 1048576) : Gr (Z50_q s a1) 0 (Sl.sz TInput.sz s) := by
 have hi : Sl.sz TInput.sz s = 1 + (s.l.map TInput.sz).sum := rfl
 obtain ⟨r, e, h1, h2⟩ := inputs_loop_w a1 s.l 0 (fun x hx => by have := Sl.mem_le (f := TInput.sz) hx; omega) (by omega) (by omega)
 unfold Z50_q; rw [e]; exact ⟨r, rfl, h1, by omega⟩
theorem fields_w (a1 : Int) : ∀ (l : List TField) (s : Int), (∀ x ∈ l, x.sz ≤ 1048576) → 0 ≤ s → s + (l.map TField.sz).sum ≤ 1073741824 → Gr (Z41_q41 a1 l s) s (l.map TField.sz).sum
 | [], s, _, _, _ => Gr.refl _ _
 | a :: r, s, hx, h0, h => by
  simp only [List.map_cons, List.sum_cons] at h ⊢
  have hd := a.sz_def
  have hp := Bs.sz_pos a.FName
  have hw := TRef.wraps_le a.FType
  have hxa := hx a (by simp)
  rw [Z41_q41]
  cases decide (s ≤ a1) with
  | false => exact Gr.refl _ _
  | true =>
   simp only [cond_true, Ab.on]
   refine Gr.bind (a := 1) (b := a.FType.FWraps.l.length + Sl.sz TInput.sz a.FArgs + Sl.sz TDir.sz a.FDirs + (r.map TField.sz).sum) (Gr.add (by omega) (by omega)) (by omega) fun x h1 h2 => ?_
   refine Gr.bind (a := a.FType.FWraps.l.length) (b := Sl.sz TInput.sz a.FArgs + Sl.sz TDir.sz a.FDirs + (r.map TField.sz).sum) (Gr.add (by omega) (by omega)) (by omega) fun y h3 h4 => ?_
   refine Gr.two (b := Sl.sz TDir.sz a.FDirs + (r.map TField.sz).sum) (inputs_w a1 a.FArgs (by omega)) (by omega) (by omega) fun z h5 h6 => ?_
   exact Gr.two (b := (r.map TField.sz).sum) (dirs_w a1 a.FDirs (by omega)) (by omega) (by omega) fun q h7 h8 => fields_w a1 r q (fun z hz => hx z (by simp [hz])) (by omega) (by omega)
theorem members_w (a1 : Int) : ∀ (l : List TMember) (s : Int), (∀ x ∈ l, x.sz ≤ 1048576) → 0 ≤ s → s + (l.map TMember.sz).sum ≤ 1073741824 → Gr (Z41_q28 a1 l s) s (l.map TMember.sz).sum
 | [], s, _, _, _ => Gr.refl _ _
 | a :: r, s, hx, h0, h => by
  simp only [List.map_cons, List.sum_cons] at h ⊢
  have hd := a.sz_def
  have hp := Bs.sz_pos a.FName
  have hxa := hx a (by simp)
  rw [Z41_q28]
  cases decide (s ≤ a1) with
  | false => exact Gr.refl _ _
  | true =>
   simp only [cond_true, Ab.on]
   refine Gr.bind (a := 1) (b := Sl.sz TDir.sz a.FDirs + (r.map TMember.sz).sum) (Gr.add (by omega) (by omega)) (by omega) fun x h1 h2 => ?_
   exact Gr.two (b := (r.map TMember.sz).sum) (dirs_w a1 a.FDirs (by omega)) (by omega) (by omega) fun q h7 h8 => members_w a1 r q (fun z hz => hx z (by simp [hz])) (by omega) (by omega)
theorem defs_w (a1 : Int) : ∀ (l : List TDef) (s : Int), (∀ x ∈ l, x.sz ≤ 1048576) → 0 ≤ s → s + (l.map TDef.sz).sum ≤ 1073741824 → Gr (Z41_q8 a1 l s) s (l.map TDef.sz).sum
 | [], s, _, _, _ => Gr.refl _ _
 | a :: r, s, hx, h0, h => by
  simp only [List.map_cons, List.sum_cons] at h ⊢
  have hd := a.sz_def
  have hp := Bs.sz_pos a.FName
  have h1 := Sl.len_le (f := Bs.sz) a.FImplements (fun x => Bs.sz_pos x)
  have hf : Sl.sz TField.sz a.FFields = 1 + (a.FFields.l.map TField.sz).sum := rfl
  have hm : Sl.sz TMember.sz a.FMembers = 1 + (a.FMembers.l.map TMember.sz).sum := rfl
  have hxa := hx a (by simp)
  rw [Z41_q8]
  cases decide (s ≤ a1) with
  | false => exact Gr.refl _ _
  | true =>
   simp only [cond_true, Ab.on]
   refine Gr.bind (a := a.FImplements.l.length) (b := Sl.sz TDir.sz a.FDirs + Sl.sz TInput.sz a.FInputs + (a.FFields.l.map TField.sz).sum + (a.FMembers.l.map TMember.sz).sum + (r.map TDef.sz).sum) (Gr.add (by omega) (by omega)) (by omega) fun x h1 h2 => ?_
   refine Gr.two (b := Sl.sz TInput.sz a.FInputs + (a.FFields.l.map TField.sz).sum + (a.FMembers.l.map TMember.sz).sum + (r.map TDef.sz).sum) (dirs_w a1 a.FDirs (by omega)) (by omega) (by omega) fun y h3 h4 => ?_
   refine Gr.two (b := (a.FFields.l.map TField.sz).sum + (a.FMembers.l.map TMember.sz).sum + (r.map TDef.sz).sum) (inputs_w a1 a.FInputs (by omega)) (by omega) (by omega) fun z h5 h6 => ?_
   refine Gr.bind (b := (a.FMembers.l.map TMember.sz).sum + (r.map TDef.sz).sum) (fields_w a1 a.FFields.l z (fun x hx => by have := Sl.mem_le (f := TField.sz) hx; omega) (by omega) (by omega)) (by omega) fun p h7 h8 => ?_
   exact Gr.bind (b := (r.map TDef.sz).sum) (members_w a1 a.FMembers.l p (fun x hx => by have := Sl.mem_le (f := TMember.sz) hx; omega) (by omega) (by omega)) (by omega) fun q h9 h10 => defs_w a1 r q (fun z hz => hx z (by simp [hz])) (by omega) (by omega)
theorem doc_W (a1 : Int) (d : TDoc) (h : d.sz ≤ 1048576) : ∃ r, Z41_q d a1 = some r := by
 have hd := d.sz_def
 have hi : Sl.sz TDef.sz d.FDefs = 1 + (d.FDefs.l.map TDef.sz).sum := rfl
 have hl := Sl.len_le (f := TDef.sz) d.FDefs (fun x => x.pos)
 obtain ⟨r, e, h1, h2⟩ := defs_w a1 d.FDefs.l (d.FDefs.l.length : Int) (fun x hx => by have := TDoc.def_le hx; omega) (by omega) (by omega)
 unfold Z41_q; rw [e]; exact ⟨r, rfl⟩
end Go.Proofs

namespace Go.Proofs
open Go Go.Ab
theorem fields_right (l : List TField) (z : Unit ⊕ Bool) (h : Z45_q10 l = some z) : (z = Sum.inl () ∧ ∀ f ∈ l, ∀ x ∈ f.FArgs.l, x.FHas = true → Z27_q x.FDefault = some true) ∨ z = Sum.inr false := by
  induction l generalizing z with
  | nil => rw [Z45_q10] at h; exact .inl ⟨(Option.some.inj h).symm, fun a ha => by cases ha⟩
  | cons a r ih =>
    rw [Z45_q10] at h
    simp only [Ab.on] at h
    cases hn : Z21_q a.FName with
    | false =>
      rw [hn] at h
      simp [guardO] at h
      exact .inr h.symm
    | true =>
      rw [hn] at h
      simp only [Bool.not_true, Bool.not_false, cond_true, Bool.false_or] at h
      rcases guardE h with ⟨_, y, ey, h⟩ | ⟨hf, _⟩
      · cases y with
        | false => simp [guardO] at h; exact .inr h.symm
        | true =>
          simp only [Bool.not_true, Bool.not_false, cond_true, Bool.false_or] at h
          have hin := inputsRight_w ey
          have fin : ∀ b : Bool, (bif b then some (Sum.inr false) else Z45_q10 r) = some z → (z = Sum.inl () ∧ ∀ f ∈ a :: r, ∀ x ∈ f.FArgs.l, x.FHas = true → Z27_q x.FDefault = some true) ∨ z = Sum.inr false := by
            intro b h
            cases b with
            | true => exact .inr (Option.some.inj h).symm
            | false =>
              rcases ih z h with ⟨h1, h2⟩ | h1
              · exact .inl ⟨h1, fun f hf => by rcases List.mem_cons.1 hf with rfl | hf; exact hin; exact h2 f hf⟩
              · exact .inr h1
          rcases guardE h with ⟨_, w, _, h⟩ | ⟨_, h⟩ <;> rcases guardE h with ⟨_, u, _, h⟩ | ⟨_, h⟩ <;> exact fin _ h
      · cases hf
theorem fieldsRight_w {s : Sl TField} (h : Z45_q s = some true) : ∀ f ∈ s.l, ∀ x ∈ f.FArgs.l, x.FHas = true → Z27_q x.FDefault = some true := by
  unfold Z45_q at h
  rcases condE h with ⟨_, h⟩ | ⟨_, h⟩
  · cases h
  · obtain ⟨z, g, h⟩ := bindO_some h
    rcases fields_right _ _ g with ⟨_, h1⟩ | rfl
    · exact h1
    · cases h
theorem def_args {t : TDef} (h : Z43_q t = some true) : ∀ f ∈ t.FFields.l, ∀ x ∈ f.FArgs.l, x.FHas = true → Z27_q x.FDefault = some true := by
  have nil : t.FFields.l.length = 0 → ∀ f ∈ t.FFields.l, ∀ x ∈ f.FArgs.l, x.FHas = true → Z27_q x.FDefault = some true := fun e f hf => by
    rw [List.length_eq_zero_iff] at e; rw [e] at hf; cases hf
  unfold Z43_q at h
  simp only [Ab.on] at h
  rcases guardE h with ⟨_, x5, _, h⟩ | ⟨_, h⟩ <;> rcases condE h with ⟨_, h⟩ | ⟨_, h⟩
  all_goals first
    | (cases h; done)
    | (cases e : Z43_q34 t.FImplements.l with
       | inr y => rw [e] at h; have := defs34 _ _ e; subst this; cases h
       | inl _ =>
         rw [e] at h
         simp only at h
         rcases condE h with ⟨_, h⟩ | ⟨_, h⟩
         · obtain ⟨x15, g, h⟩ := bindO_some h
           simp at h; rw [h.1.1] at g; exact fieldsRight_w g
         · rcases condE h with ⟨_, h⟩ | ⟨_, h⟩
           · rcases guardE h with ⟨_, x, g, h⟩ | ⟨_, h⟩
             · simp at h; rw [h.1.1.2] at g; exact fieldsRight_w g
             · simp at h
           · rcases condE h with ⟨_, h⟩ | ⟨_, h⟩
             · rcases guardE h with ⟨_, x, g, h⟩ | ⟨_, h⟩ <;> simp at h
               exact nil (by rw [h.1.1.2]; rfl)
             · rcases condE h with ⟨_, h⟩ | ⟨_, h⟩
               · rcases guardE h with ⟨_, x, g, h⟩ | ⟨_, h⟩ <;> simp at h
                 exact nil (by rw [h.1.1.2]; rfl)
               · rcases condE h with ⟨_, h⟩ | ⟨_, h⟩
                 · rcases guardE h with ⟨_, x, g, h⟩ | ⟨_, h⟩ <;> simp at h
                   exact nil (by rw [h.1.1.1.2]; rfl)
                 · cases h)
end Go.Proofs

namespace Go.Proofs
open Go Go.Ab
set_option maxRecDepth 100000 in
theorem example12 : Z19 = some true := by kernel_rfl
theorem gT {α β : Type} (o : Option α) (d : α) (k : α → Option β) : guardO true o d k = o.bind k := rfl
theorem gF {α β : Type} (o : Option α) (d : α) (k : α → Option β) : guardO false o d k = k d := rfl
def flt (d : TDoc) (x : TInput) (p : Bs) : List TFault := bif x.FHas then (match Z4_q d x.FType x.FDefault zv with | some y => bif decide (y.2 = 0) then [] else [TFault.mk 23 p] | none => []) else []
theorem flt_len (d : TDoc) (x : TInput) (p : Bs) : (flt d x p).length ≤ 1 := by
 unfold flt
 cases x.FHas with
 | false => simp
 | true =>
  cases Z4_q d x.FType x.FDefault zv with
  | none => simp
  | some y =>
   simp only [cond_true]
   cases decide (y.2 = 0) with
   | true => simp
   | false => simp
def Good (d : TDoc) (x : TInput) : Prop := x.sz ≤ 1048576 ∧ (x.FHas = true → ∃ v w e, Z4_q d x.FType x.FDefault zv = some (v, e) ∧ Z57_q d x.FType x.FDefault zv = some (w, e))
theorem flat_le {α : Type} (g : α → List TFault) (h : ∀ x, (g x).length ≤ 1) : ∀ l : List α, (l.flatMap g).length ≤ l.length
 | [] => by simp
 | a :: r => by have := flat_le g h r; have := h a; simp only [List.flatMap_cons, List.length_append, List.length_cons]; omega
theorem one_t {d : TDoc} {x : TInput} (hx : Good d x) (p : Bs) (s : Sl TFault) (hs : s.l.length ≤ 549755813888) : ∃ t, Z2_q x p d s = some t ∧ t.l = s.l ++ flt d x p := by
 unfold Z2_q flt
 cases hh : x.FHas with
 | false => exact ⟨s, rfl, by simp⟩
 | true =>
  obtain ⟨v, w, e, e1, _⟩ := hx.2 hh
  have e1' : Z4_q d x.FType x.FDefault (TValue.mk (0 : Int) (0 : Int) ([] : Bs) true ([]) (Sl.nil : Sl Bs)) = some (v, e) := e1
  rw [Bool.not_true, cond_false, e1', e1, Option.bind_some]
  simp only [cond_true]
  cases decide (e = 0) with
  | true => exact ⟨s, rfl, by simp⟩
  | false => simp only [Bool.not_false, cond_true, cond_false]; rw [appC_ok (by decide) (by show s.l.length + 1 ≤ _; omega)]; exact ⟨_, rfl, rfl⟩
theorem name_le (x : TInput) (h : x.sz ≤ 1048576) : x.FName.length ≤ 1048576 := by
 have h1 := x.sz_def; have h2 : Bs.sz x.FName = x.FName.length + 1 := rfl; omega
def atA (p n : Bs) : Bs := p ++ [40] ++ n ++ [41]
theorem t_args (d : TDoc) (x20 : TDef) (x48 : TField) (h1 : x20.FName.length ≤ 1048576) (h2 : x48.FName.length ≤ 1048576) : ∀ (l : List TInput) (s : Sl TFault), (∀ x ∈ l, Good d x) → s.l.length + l.length ≤ 549755813888 →
  ∃ t, Z1_q51 d x20 x48 l s = some t ∧ t.l = s.l ++ l.flatMap fun x => flt d x (atA (x20.FName ++ [46] ++ x48.FName) x.FName) := by
 intro l
 induction l with
 | nil => intro s _ _; exact ⟨s, rfl, by simp⟩
 | cons a r ih =>
  intro s hx hs
  simp only [List.length_cons] at hs
  have ha := hx a (by simp)
  have hn := name_le a ha.1
  rw [Z1_q51]
  simp only [Ab.on]
  rw [catC_ok (by simp only [List.length_append, List.length_cons, List.length_nil]; omega), Option.bind_some, catC_ok (by simp only [List.length_append, List.length_cons, List.length_nil]; omega), Option.bind_some, catC_ok (by simp only [List.length_append, List.length_cons, List.length_nil]; omega), Option.bind_some, catC_ok (by simp only [List.length_append, List.length_cons, List.length_nil]; omega), Option.bind_some, catC_ok (by simp only [List.length_append, List.length_cons, List.length_nil]; omega), Option.bind_some]
  obtain ⟨t, e1, e2⟩ := one_t ha (x20.FName ++ [46] ++ x48.FName ++ [40] ++ a.FName ++ [41]) s (by omega)
  rw [e1, Option.bind_some]
  obtain ⟨u, e3, e4⟩ := ih t (fun x hx' => hx x (by simp [hx'])) (by rw [e2, List.length_append]; have := flt_len d a (x20.FName ++ [46] ++ x48.FName ++ [40] ++ a.FName ++ [41]); omega)
  exact ⟨u, e3, by rw [e4, e2, List.flatMap_cons, List.append_assoc]; rfl⟩
theorem t_inputs (d : TDoc) (x20 : TDef) (h1 : x20.FName.length ≤ 1048576) : ∀ (l : List TInput) (s : Sl TFault), (∀ x ∈ l, Good d x) → s.l.length + l.length ≤ 549755813888 →
  ∃ t, Z1_q25 d x20 l s = some t ∧ t.l = s.l ++ l.flatMap fun x => flt d x (x20.FName ++ [46] ++ x.FName) := by
 intro l
 induction l with
 | nil => intro s _ _; exact ⟨s, rfl, by simp⟩
 | cons a r ih =>
  intro s hx hs
  simp only [List.length_cons] at hs
  have ha := hx a (by simp)
  have hn := name_le a ha.1
  rw [Z1_q25]
  simp only [Ab.on]
  rw [catC_ok (by simp only [List.length_append, List.length_cons, List.length_nil]; omega), Option.bind_some, catC_ok (by simp only [List.length_append, List.length_cons, List.length_nil]; omega), Option.bind_some]
  obtain ⟨t, e1, e2⟩ := one_t ha (x20.FName ++ [46] ++ a.FName) s (by omega)
  rw [e1, Option.bind_some]
  obtain ⟨u, e3, e4⟩ := ih t (fun x hx' => hx x (by simp [hx'])) (by rw [e2, List.length_append]; have := flt_len d a (x20.FName ++ [46] ++ a.FName); omega)
  exact ⟨u, e3, by rw [e4, e2, List.flatMap_cons, List.append_assoc]⟩
theorem r_loop (d : TDoc) (p o n : Bs) (h1 : p.length ≤ 4194304) (h2 : o.length ≤ 4) (h3 : n.length ≤ 4) : ∀ (l : List TInput) (s : Sl TFault), (∀ x ∈ l, Good d x) → s.l.length + l.length ≤ 549755813888 →
  ∃ t, Z58_q7 d p o n l s = some t ∧ t.l = s.l ++ l.flatMap fun x => flt d x (p ++ o ++ x.FName ++ n) := by
 intro l
 induction l with
 | nil => intro s _ _; exact ⟨s, rfl, by simp⟩
 | cons a r ih =>
  intro s hx hs
  simp only [List.length_cons] at hs
  have ha := hx a (by simp)
  have hn := name_le a ha.1
  rw [Z58_q7]
  simp only [Ab.on]
  have step : ∃ t, (bif (!a.FHas) then (some s) else ((Z57_q d a.FType a.FDefault (TValue.mk (0 : Int) (0 : Int) ([] : Bs) true ([]) (Sl.nil : Sl Bs))).bind fun x23 => bif (!decide (x23.2 = (0 : Int))) then ((catC p o).bind fun x26 => (catC x26 a.FName).bind fun x28 => (catC x28 n).bind fun x29 => (appC 24 s (⟨false, [(TFault.mk (23 : Int) x29)]⟩ : Sl TFault)).bind fun x30 => some x30) else (some s))) = some t ∧ t.l = s.l ++ flt d a (p ++ o ++ a.FName ++ n) := by
   unfold flt
   cases hh : a.FHas with
   | false => exact ⟨s, rfl, by simp⟩
   | true =>
    obtain ⟨v, w, e, e1, e2⟩ := ha.2 hh
    have e2' : Z57_q d a.FType a.FDefault (TValue.mk (0 : Int) (0 : Int) ([] : Bs) true ([]) (Sl.nil : Sl Bs)) = some (w, e) := e2
    rw [Bool.not_true, cond_false, e2', e1, Option.bind_some]
    simp only [cond_true]
    cases decide (e = 0) with
    | true => exact ⟨s, rfl, by simp⟩
    | false =>
     simp only [Bool.not_false, cond_true, cond_false]
     rw [catC_ok (by omega), Option.bind_some, catC_ok (by simp only [List.length_append]; omega), Option.bind_some, catC_ok (by simp only [List.length_append]; omega), Option.bind_some, appC_ok (by decide) (by show s.l.length + 1 ≤ _; omega)]
     exact ⟨_, rfl, rfl⟩
  obtain ⟨t, e1, e2⟩ := step
  rw [e1, Option.bind_some]
  obtain ⟨u, e3, e4⟩ := ih t (fun x hx' => hx x (by simp [hx'])) (by rw [e2, List.length_append]; have := flt_len d a (p ++ o ++ a.FName ++ n); omega)
  exact ⟨u, e3, by rw [e4, e2, List.flatMap_cons, List.append_assoc]⟩
theorem r_list (d : TDoc) (s : Sl TInput) (p o n : Bs) (h1 : p.length ≤ 4194304) (h2 : o.length ≤ 4) (h3 : n.length ≤ 4) (hx : ∀ x ∈ s.l, Good d x) (hs : s.l.length ≤ 1048576) : ∃ t, Z58_q d s p o n = some t ∧ t.l = s.l.flatMap fun x => flt d x (p ++ o ++ x.FName ++ n) := by
 unfold Z58_q
 obtain ⟨t, e1, e2⟩ := r_loop d p o n h1 h2 h3 s.l (Sl.nil : Sl TFault) hx (by simp [Sl.nil]; omega)
 rw [e1, Option.bind_some]
 exact ⟨t, rfl, by rw [e2]; simp [Sl.nil]⟩
def fF (d : TDoc) (t : TDef) (f : TField) : List TFault := f.FArgs.l.flatMap fun x => flt d x (atA (t.FName ++ [46] ++ f.FName) x.FName)
def fI (d : TDoc) (t : TDef) : List TFault := t.FInputs.l.flatMap fun x => flt d x (t.FName ++ [46] ++ x.FName)
def fD (d : TDoc) (t : TDef) : List TFault := t.FFields.l.flatMap (fF d t) ++ fI d t
def GoodF (d : TDoc) (f : TField) : Prop := f.sz ≤ 1048576 ∧ ∀ x ∈ f.FArgs.l, Good d x
def GoodD (d : TDoc) (t : TDef) : Prop := t.sz ≤ 1048576 ∧ (∀ f ∈ t.FFields.l, GoodF d f) ∧ ∀ x ∈ t.FInputs.l, Good d x
theorem field_facts {d : TDoc} {f : TField} (h : GoodF d f) : f.FName.length ≤ 1048576 ∧ f.FArgs.l.length ≤ f.sz := by
 have h1 := f.sz_def; have h2 : Bs.sz f.FName = f.FName.length + 1 := rfl
 have h3 := Sl.len_le (f := TInput.sz) f.FArgs (fun x => x.pos)
 have h4 := h.1
 exact ⟨by omega, by omega⟩
theorem def_facts {d : TDoc} {t : TDef} (h : GoodD d t) : t.FName.length ≤ 1048576 ∧ t.FInputs.l.length + (t.FFields.l.map TField.sz).sum ≤ t.sz := by
 have h1 := t.sz_def; have h2 : Bs.sz t.FName = t.FName.length + 1 := rfl
 have h3 := Sl.len_le (f := TInput.sz) t.FInputs (fun x => x.pos)
 have h4 := h.1
 have h5 : Sl.sz TField.sz t.FFields = 1 + (t.FFields.l.map TField.sz).sum := rfl
 exact ⟨by omega, by omega⟩
theorem fF_len {d : TDoc} {t : TDef} {f : TField} (h : GoodF d f) : (fF d t f).length ≤ f.sz := by
 have := flat_le (fun x : TInput => flt d x (atA (t.FName ++ [46] ++ f.FName) x.FName)) (fun x => flt_len _ _ _) f.FArgs.l
 have := (field_facts h).2
 unfold fF; omega
theorem t_fields (d : TDoc) (t : TDef) (h1 : t.FName.length ≤ 1048576) : ∀ (l : List TField) (s : Sl TFault), (∀ f ∈ l, GoodF d f) → s.l.length + (l.map TField.sz).sum ≤ 549755813888 →
  ∃ u, Z1_q39 d t l s = some u ∧ u.l = s.l ++ l.flatMap (fF d t) := by
 intro l
 induction l with
 | nil => intro s _ _; exact ⟨s, rfl, by simp⟩
 | cons a r ih =>
  intro s hx hs
  simp only [List.map_cons, List.sum_cons] at hs
  have ha := hx a (by simp)
  obtain ⟨f1, f2⟩ := field_facts ha
  rw [Z1_q39]
  simp only [Ab.on]
  obtain ⟨u, e1, e2⟩ := t_args d t a h1 f1 a.FArgs.l s ha.2 (by omega)
  rw [e1, Option.bind_some]
  have hl := fF_len (t := t) ha
  obtain ⟨w, e3, e4⟩ := ih u (fun x hx' => hx x (by simp [hx'])) (by rw [e2, List.length_append]; unfold fF at hl; omega)
  exact ⟨w, e3, by rw [e4, e2, List.flatMap_cons, List.append_assoc]; rfl⟩
theorem r_fields (d : TDoc) (t : TDef) (h1 : t.FName.length ≤ 1048576) : ∀ (l : List TField) (s : Sl TFault), (∀ f ∈ l, GoodF d f) → s.l.length + (l.map TField.sz).sum ≤ 549755813888 →
  ∃ u, Z56_q23 d t l s = some u ∧ u.l = s.l ++ l.flatMap (fF d t) := by
 intro l
 induction l with
 | nil => intro s _ _; exact ⟨s, rfl, by simp⟩
 | cons a r ih =>
  intro s hx hs
  simp only [List.map_cons, List.sum_cons] at hs
  have ha := hx a (by simp)
  obtain ⟨f1, f2⟩ := field_facts ha
  rw [Z56_q23]
  simp only [Ab.on]
  rw [catC_ok (by simp only [List.length_cons, List.length_nil]; omega), Option.bind_some, catC_ok (by simp only [List.length_append, List.length_cons, List.length_nil]; omega), Option.bind_some]
  obtain ⟨u, e1, e2⟩ := r_list d a.FArgs (t.FName ++ [46] ++ a.FName) [40] [41] (by simp only [List.length_append, List.length_cons, List.length_nil]; omega) (by simp) (by simp) ha.2 (by have := ha.1; omega)
  have hl := fF_len (t := t) ha
  have e2' : u.l = fF d t a := e2
  rw [e1, Option.bind_some, appC_ok (by decide) (by rw [e2']; omega), Option.bind_some]
  obtain ⟨w, e3, e4⟩ := ih ⟨s.nl && u.l.isEmpty, s.l ++ u.l⟩ (fun x hx' => hx x (by simp [hx'])) (by show (s.l ++ u.l).length + _ ≤ _; rw [e2', List.length_append]; omega)
  exact ⟨w, e3, by rw [e4, e2', List.flatMap_cons, List.append_assoc]⟩
theorem t_defs (d : TDoc) : ∀ (l : List TDef) (s : Sl TFault), (∀ t ∈ l, GoodD d t) → s.l.length + (l.map TDef.sz).sum ≤ 549755813888 → ∃ u, Z1_q11 d l s = some u ∧ u.l = s.l ++ l.flatMap (fD d) := by
 intro l
 induction l with
 | nil => intro s _ _; exact ⟨s, rfl, by simp⟩
 | cons a r ih =>
  intro s hx hs
  simp only [List.map_cons, List.sum_cons] at hs
  have ha := hx a (by simp)
  obtain ⟨f1, f2⟩ := def_facts ha
  rw [Z1_q11]
  simp only [Ab.on]
  obtain ⟨u, e1, e2⟩ := t_fields d a f1 a.FFields.l s ha.2.1 (by omega)
  have hfl : (a.FFields.l.flatMap (fF d a)).length ≤ (a.FFields.l.map TField.sz).sum := by
   have : ∀ l : List TField, (∀ f ∈ l, GoodF d f) → (l.flatMap (fF d a)).length ≤ (l.map TField.sz).sum := by
    intro l
    induction l with
    | nil => intro _; simp
    | cons b t ih2 => intro h; have := ih2 fun f hf => h f (by simp [hf]); have := fF_len (t := a) (h b (by simp)); simp only [List.flatMap_cons, List.length_append, List.map_cons, List.sum_cons]; omega
   exact this _ ha.2.1
  rw [e1, Option.bind_some]
  obtain ⟨v, e3, e4⟩ := t_inputs d a f1 a.FInputs.l u ha.2.2 (by rw [e2, List.length_append]; omega)
  rw [e3, Option.bind_some]
  have hil : (fI d a).length ≤ a.FInputs.l.length := flat_le _ (fun x => flt_len _ _ _) _
  obtain ⟨w, e5, e6⟩ := ih v (fun x hx' => hx x (by simp [hx'])) (by rw [e4, e2, List.length_append, List.length_append]; unfold fI at hil; omega)
  exact ⟨w, e5, by rw [e6, e4, e2, List.flatMap_cons]; unfold fD fI; simp only [List.append_assoc]⟩
theorem r_defs (d : TDoc) : ∀ (l : List TDef) (s : Sl TFault), (∀ t ∈ l, GoodD d t) → s.l.length + (l.map TDef.sz).sum ≤ 549755813888 → ∃ u, Z56_q7 d l s = some u ∧ u.l = s.l ++ l.flatMap (fD d) := by
 intro l
 induction l with
 | nil => intro s _ _; exact ⟨s, rfl, by simp⟩
 | cons a r ih =>
  intro s hx hs
  simp only [List.map_cons, List.sum_cons] at hs
  have ha := hx a (by simp)
  have hsz := ha.1
  obtain ⟨f1, f2⟩ := def_facts ha
  rw [Z56_q7]
  simp only [Ab.on]
  obtain ⟨u, e1, e2⟩ := r_fields d a f1 a.FFields.l s ha.2.1 (by omega)
  have hfl : (a.FFields.l.flatMap (fF d a)).length ≤ (a.FFields.l.map TField.sz).sum := by
   have : ∀ l : List TField, (∀ f ∈ l, GoodF d f) → (l.flatMap (fF d a)).length ≤ (l.map TField.sz).sum := by
    intro l
    induction l with
    | nil => intro _; simp
    | cons b t ih2 => intro h; have := ih2 fun f hf => h f (by simp [hf]); have := fF_len (t := a) (h b (by simp)); simp only [List.flatMap_cons, List.length_append, List.map_cons, List.sum_cons]; omega
   exact this _ ha.2.1
  rw [e1, Option.bind_some]
  obtain ⟨v, e3, e4⟩ := r_list d a.FInputs a.FName [46] [] (by omega) (by simp) (by simp) ha.2.2 (by omega)
  have e4' : v.l = fI d a := by rw [e4]; unfold fI; simp only [List.append_nil]
  have hil : (fI d a).length ≤ a.FInputs.l.length := flat_le _ (fun x => flt_len _ _ _) _
  rw [e3, Option.bind_some, appC_ok (by decide) (by rw [e4', e2, List.length_append]; omega), Option.bind_some]
  obtain ⟨w, e5, e6⟩ := ih ⟨u.nl && v.l.isEmpty, u.l ++ v.l⟩ (fun x hx' => hx x (by simp [hx'])) (by show (u.l ++ v.l).length + _ ≤ _; rw [e4', e2, List.length_append, List.length_append]; omega)
  exact ⟨w, e5, by rw [e6, e4', e2, List.flatMap_cons]; unfold fD; simp only [List.append_assoc]⟩
theorem nB_le : nB + 1 ≤ 1099511627000 := by unfold nB; omega
theorem good_of {d : TDoc} (h : Z40_q d = some true) (hw : d.wf) (hs : d.sz ≤ 1048576) : ∀ t ∈ d.FDefs.l, GoodD d t := by
 have hD := doc_ok h hw hs
 have one : ∀ x : TInput, x.wf → x.sz ≤ 1048576 → (x.FHas = true → Z27_q x.FDefault = some true) → Good d x := by
  intro x hxw hxs hl
  refine ⟨hxs, fun hh => ?_⟩
  have hd := x.sz_def
  obtain ⟨v, w, e, e1, e2, _⟩ := literal_rel (N := nB) nB_le hD (va := zv) (zv_rl.mono (by unfold nB; omega)) (sok_wraps hxw.2.1 (by omega)) (literal_rl (hl hh) hxw.2.2.2.1 (by omega))
  exact ⟨v, w, e, e1, e2⟩
 intro t ht
 have hr := doc_right h t ht
 have hts := TDoc.def_le ht
 have htw := hw.1.2.2 t ht
 have hd := t.sz_def
 refine ⟨by omega, fun f hf => ?_, fun x hx => one x (htw.2.2.2.2.2.2.1.2.2 x hx) (by have := Sl.mem_le (f := TInput.sz) hx; omega) (def_right hr x hx)⟩
 have hfs := Sl.mem_le (f := TField.sz) hf
 have hfd := f.sz_def
 have hfw : f.wf := htw.2.2.2.2.1.2.2 f hf
 exact ⟨by omega, fun x hx => one x (hfw.2.1.2.2 x hx) (by have := Sl.mem_le (f := TInput.sz) hx; omega) (def_args hr f hf x hx)⟩
theorem both {d : TDoc} (h : Z40_q d = some true) (hw : d.wf) (hs : d.sz ≤ 1048576) : ∃ a b, Z1_q d = some a ∧ Z56_q d = some b ∧ a.l = b.l := by
 have hg := good_of h hw hs
 have hd := d.sz_def
 have h1 : Sl.sz TDef.sz d.FDefs = 1 + (d.FDefs.l.map TDef.sz).sum := rfl
 obtain ⟨a, e1, e2⟩ := t_defs d d.FDefs.l (Sl.nil : Sl TFault) hg (by simp only [Sl.nil, List.length_nil]; omega)
 obtain ⟨b, e3, e4⟩ := r_defs d d.FDefs.l (Sl.nil : Sl TFault) hg (by simp only [Sl.nil, List.length_nil]; omega)
 refine ⟨a, b, ?_, ?_, by rw [e2, e4]⟩
 ·unfold Z1_q; rw [e1]; rfl
 ·unfold Z56_q; rw [e3]; rfl
theorem cmp (a b : Sl TFault) (h : a.l = b.l) : ∀ (n i : Nat), a.l.length < n + i → i ≤ a.l.length → Z18_l22 a b n i = some true := by
 intro n
 induction n with
 | zero => intro i h1 h2; omega
 | succ n ih =>
  intro i h1 h2
  rw [Z18_l22]
  by_cases hi : i < a.l.length
  ·rw [show decide (((i : Nat) : Int) < ((a.l.length : Nat) : Int)) = true from decide_eq_true (by omega), cond_true, ← h, List.getElem?_eq_getElem hi, Option.bind_some, Option.bind_some]
   simp only [decide_true, beq_self_eq_true, Bool.and_self, Bool.not_true, cond_false]
   exact ih (i + 1) (by omega) (by omega)
  ·rw [show decide (((i : Nat) : Int) < ((a.l.length : Nat) : Int)) = false from decide_eq_false (by omega), cond_false]
   unfold Z18_j18
   rw [example12]; rfl
theorem defaults_eq (d : TDoc) (hs : d.sz ≤ 1048576) (hw : d.wf) : Z18 d = some true := by
 unfold Z18
 obtain ⟨w, e⟩ := doc_W 600 d hs
 obtain ⟨b, e2⟩ := Z40_ok d hs
 rw [Z41_eq, e, Option.bind_some, Z40_eq, e2]
 cases decide ((600 : Int) < w) with
 | true => simp only [Bool.not_true, gF, Bool.true_or, cond_true]; rw [example12]; rfl
 | false =>
  simp only [Bool.not_false, gT, Option.bind_some, Bool.false_or]
  cases b with
  | false => rw [Bool.not_false, cond_true, example12]; rfl
  | true =>
   rw [Bool.not_true, cond_false]
   obtain ⟨x, y, e3, e4, e5⟩ := both e2 hw hs
   rw [Z1_eq, e3, Option.bind_some, Z56_eq, e4, Option.bind_some]
   rw [show decide (((x.l.length : Nat) : Int) = ((y.l.length : Nat) : Int)) = true from decide_eq_true (by rw [e5]), Bool.not_true, cond_false]
   exact cmp x y e5 _ 0 (by omega) (by omega)
end Go.Proofs

namespace Go.Proofs.YtjlggcgmmpopmaaGreatDoor
open Go Go.Ab Go.RowKit Go.ChangeShapes Go.WideShapes Go.ChangeAt
variable {lou : Lou}
theorem bulkAll {H : Type} (l : List (DataW H)) : Rows.uptoBulkAll l = (l.map Rows.uptoBulk).sum := by
 induction l with
 | nil => rfl
 | cons x r ih => simp only [Rows.uptoBulkAll, List.map_cons, List.sum_cons, ih]
theorem bulkB {H : Type} : Bulk (H := H) Rows.uptoBulk := by
 refine ⟨fun d => ?_, fun b => by simp [Rows.uptoBulk], fun e s => by simp only [Rows.uptoBulk, bulkAll]; omega, fun l => by simp only [Rows.uptoBulk, bulkAll]; omega⟩
 cases d with
 | lit l => cases l <;> simp [Rows.uptoBulk]
 | nil => simp [Rows.uptoBulk]
 | ptr d => simp [Rows.uptoBulk]
 | slice elems spare => simp [Rows.uptoBulk]
 | agg parts => simp [Rows.uptoBulk]
 | iface t d => simp [Rows.uptoBulk]
 | map entries => simp [Rows.uptoBulk]
 | held h => simp [Rows.uptoBulk]
theorem own : ownKnob Tryz.prog.godebug = none := by kernel_rfl
theorem laid : laidOutB Tryz.prog = true := by kernel_rfl
theorem bound {H : Type} {l : List (DataW H)} (hk : Rows.uptoSmall H l = true) : Rows.uptoBulkAll l ≤ 1048576 := of_decide_eq_true hk
theorem table {W : World} (h : laidMet Tryz.prog Rows.coerceDefaultsUptoRow.laid W) : ∃ u fr, W.heap[1]? = some (.cells (Lib.pow10Tab.map fun z => Value.int .u64 z).toArray u fr) :=
 tab_of (P := Tryz.prog) (name := "internal/strconv.uint64pow10") (g := 1) (t := 168) (e := 161) (n := 20) (by kernel_rfl) (by kernel_rfl) (by kernel_rfl) (by kernel_rfl) (by kernel_rfl) (by kernel_rfl) h
  (by rw [show (Lib.tabData .u64 Lib.pow10Tab : DataW Unit) = Rows.laid_internal_strconv_uint64pow10 from (by kernel_rfl)]; exact .tail _ (.tail _ (.head _)))
theorem isTab (u : TypeId) (fr : Nat × Nat) : IsTab Tryz.prog (.fix 1 (.cells (Lib.pow10Tab.map fun z => Value.int .u64 z).toArray u fr)) := .of (by kernel_rfl)
theorem defaults_call (d : TDoc) (hs : d.sz ≤ 1048576) (hw : d.wf) (u : TypeId) (fr : Nat × Nat) : ACalls Tryz.prog 7 [.agg d.c] (hTab 1 (.cells (Lib.pow10Tab.map fun z => Value.int .u64 z).toArray u fr)) fun r h' => r = .a (.d (.bool true)) ∧ h' = hTab 1 (.cells (Lib.pow10Tab.map fun z => Value.int .u64 z).toArray u fr) :=
 Z18_walk (defaults_eq d hs hw) _ (gT := 0) rfl (isTab u fr)
end Go.Proofs.YtjlggcgmmpopmaaGreatDoor

